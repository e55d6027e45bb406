import PyProof.Rows.All
import Wide.All
import OpenK.AllK
import Wide.FinOn
import HandS.ForMost
import HandS.EndBits
import HandS.ForExc
import HandS.Wide
import HandS.Conv
import HandS.Style
import HandS.IsInst
import HandS.TupAny
import HandS.TupMul
import HandS.Deep
import HandS.Gcd
import HandS.Flow
import HandS.RevRange
import HandS.Rev
import HandS.Zip
import KE.SortData
import KE.GoesMore
import KE.OsSorts
import HandS.DictComp
import KE.KIndexOf
import HandS.Property
import KE.DataMinMax
import HandS.ExcInit
import HandS.ExcField
import HandS.ExcIs
import HandS.ExcOwn
import KE.KExcIs
import HandS.TupSets
import HandS.SetBool
import HandS.SetFor
import PyProof.Rows.SetFrom
import KE.KTupSum
import PyProof.DictUpdate
import HandS.HotCalls
import PySem.Challenge.RW_nobadday_k56_own_halfway
set_option Elab.async false
set_option linter.all false
set_option maxRecDepth 100000
set_option maxHeartbeats 4000000
noncomputable section
namespace Da
open PySem PySem.Spec L2
/-- a check that nobody reckons out -/
@[irreducible] def stuck (p : Prop) : Bool := @decide p (Classical.propDecidable p)
theorem stuck_iff {p : Prop} : stuck p = true ↔ p := by unfold stuck; exact @decide_eq_true_iff p (Classical.propDecidable p)
/-- data, without the heap -/
inductive D where
  | non | bl (b : Bool) | int (i : Int) | str (s : Str)
  | lst (xs : List D) | tup (xs : List D) | frl (xs : List D)
  | dic (ks : List Key) (vs : List D) | dit (ks : List (List Key)) (vs : List D)
  | obj (c : Str) (ns : List Str) (vs : List D)
  /-- an error that an except suite holds -/
  | exc (c : Str) (ns : List Str) (vs : List D)
/-- what a run gives: a value, an own exception with its arguments, or nothing that is known -/
inductive Res (α : Type) where
  | ok (a : α) | ex (c : Str) (fs : List (Str × D)) | er
namespace Res
def bind {α β : Type} (r : Res α) (f : α → Res β) : Res β := match r with
  | .ok a => f a
  | .ex c fs => .ex c fs
  | .er => .er
@[simp] theorem bind_ok {α β : Type} (a : α) (f : α → Res β) : (Res.ok a).bind f = f a := rfl
@[simp] theorem bind_ex {α β : Type} (c : Str) (as : List (Str × D)) (f : α → Res β) : (Res.ex c as : Res α).bind f = .ex c as := rfl
@[simp] theorem bind_er {α β : Type} (f : α → Res β) : (Res.er : Res α).bind f = .er := rfl
end Res
/-- the value v stands for the data d, read in the view S -/
inductive Rep (K : PySem.W.Frag) (mg : Str → Option Value) (S : Hp) : V → D → Prop where
  | non : Rep K mg S .non .non
  | bl (b : Bool) : Rep K mg S (.bl b) (.bl b)
  | int (i : Int) : Rep K mg S (.int i) (.int i)
  | str (x : Str) : Rep K mg S (.str x) (.str x)
  | lst {a : Addr} {vs : List V} {ds : List D} (h : S a = some (.lst vs)) (hl : vs.length = ds.length) (hi : ∀ (i : Nat) (v : V) (d : D), vs[i]? = some v → ds[i]? = some d → Rep K mg S v d) : Rep K mg S (.ref a) (.lst ds)
  | tup {a : Addr} {vs : List V} {ds : List D} (h : S a = some (.tup vs)) (hl : vs.length = ds.length) (hi : ∀ (i : Nat) (v : V) (d : D), vs[i]? = some v → ds[i]? = some d → Rep K mg S v d) : Rep K mg S (.ref a) (.tup ds)
  | frl {a : Addr} {vs : List V} {ds : List D} (h : SqL K S a vs) (hl : vs.length = ds.length) (hi : ∀ (i : Nat) (v : V) (d : D), vs[i]? = some v → ds[i]? = some d → Rep K mg S v d) : Rep K mg S (.ref a) (.frl ds)
  | dic {a : Addr} {kvs : List (Key × V)} {ds : List D} (h : Rd S a (.dK kvs)) (hl : kvs.length = ds.length) (hi : ∀ (i : Nat) (p : Key × V) (d : D), kvs[i]? = some p → ds[i]? = some d → Rep K mg S p.2 d) : Rep K mg S (.ref a) (.dic (kvs.map (·.1)) ds)
  | dit {a : Addr} {kvs : List (List Key × V)} {ds : List D} (h : S a = some (.dT kvs)) (hl : kvs.length = ds.length) (hi : ∀ (i : Nat) (p : List Key × V) (d : D), kvs[i]? = some p → ds[i]? = some d → Rep K mg S p.2 d) : Rep K mg S (.ref a) (.dit (kvs.map (·.1)) ds)
  | obj {a C dx : Addr} {c : Str} {fs : List (Str × V)} {ds : List D} (h : S a = some (.ins C dx fs)) (hm : mg c = some (.ref C)) (hl : fs.length = ds.length) (hi : ∀ (i : Nat) (p : Str × V) (d : D), fs[i]? = some p → ds[i]? = some d → Rep K mg S p.2 d) : Rep K mg S (.ref a) (.obj c (fs.map (·.1)) ds)
  | exc {a : Addr} {c : Str} {ns : List Str} {ds : List D} : Rep K mg S (.ref a) (.exc c ns ds)
section
variable {K : PySem.W.Frag} {mg : Str → Option Value} {S S' H H' : Hp}
theorem same_rd {a : Addr} {u : HO} (e : Same S S') (h : Rd S a u) : Rd S' a u := by
  rcases h with h | ⟨o, h⟩
  · exact .inl (e _ _ h)
  · exact .inr ⟨o, e _ _ h⟩
theorem same_l {a : Addr} {xs : List V} (e : Same S S') (h : SqL K S a xs) : SqL K S' a xs := by
  rcases h with h | h
  · exact .inl (same_rd e h)
  · exact .inr h
theorem same_t {a : Addr} {xs : List V} (e : Same S S') (h : SqT K S a xs) : SqT K S' a xs := by
  rcases h with h | h
  · exact .inl (same_rd e h)
  · exact .inr h
theorem Rep.mono {v : V} {d : D} (e : Same S S') (h : Rep K mg S v d) : Rep K mg S' v d := by
  induction h with
  | non => exact .non
  | bl b => exact .bl b
  | int i => exact .int i
  | str x => exact .str x
  | lst h hl _ ih => exact .lst (e _ _ h) hl ih
  | frl h hl _ ih => exact .frl (same_l e h) hl ih
  | tup h hl _ ih => exact .tup (e _ _ h) hl ih
  | dic h hl _ ih => exact .dic (same_rd e h) hl ih
  | dit h hl _ ih => exact .dit (e _ _ h) hl ih
  | obj h hm hl _ ih => exact .obj (e _ _ h) hm hl ih
  | exc => exact .exc
/-- item by item -/
structure RepL (K : PySem.W.Frag) (mg : Str → Option Value) (S : Hp) (vs : List V) (ds : List D) : Prop where
  len : vs.length = ds.length
  at_ : ∀ (i : Nat) (v : V) (d : D), vs[i]? = some v → ds[i]? = some d → Rep K mg S v d
theorem RepL.mono {vs : List V} {ds : List D} (e : Same S S') (h : RepL K mg S vs ds) : RepL K mg S' vs ds := ⟨h.len, fun i v d a b => (h.at_ i v d a b).mono e⟩
theorem RepL.nil : RepL K mg S [] [] := ⟨rfl, fun i v d a _ => by simp at a⟩
theorem RepL.cons {v : V} {d : D} {vs : List V} {ds : List D} (h : Rep K mg S v d) (t : RepL K mg S vs ds) : RepL K mg S (v :: vs) (d :: ds) := by
  refine ⟨by rw [List.length_cons, List.length_cons, t.len], fun i w e a b => ?_⟩
  cases i with
  | zero =>
    rw [List.getElem?_cons_zero] at a b
    cases a; cases b
    exact h
  | succ i =>
    rw [List.getElem?_cons_succ] at a b
    exact t.at_ i w e a b
theorem RepL.head {v : V} {d : D} {vs : List V} {ds : List D} (t : RepL K mg S (v :: vs) (d :: ds)) : Rep K mg S v d := t.at_ 0 v d rfl rfl
theorem RepL.tail {v : V} {d : D} {vs : List V} {ds : List D} (t : RepL K mg S (v :: vs) (d :: ds)) : RepL K mg S vs ds :=
  ⟨by have := t.len; simpa using this, fun i w e a b => t.at_ (i + 1) w e (by simpa using a) (by simpa using b)⟩
theorem RepL.get {vs : List V} {ds : List D} {i : Nat} {d : D} (t : RepL K mg S vs ds) (h : ds[i]? = some d) : ∃ v, vs[i]? = some v ∧ Rep K mg S v d := by
  have hi := (List.getElem?_eq_some_iff.mp h).1
  have hv : i < vs.length := by rw [t.len]; exact hi
  exact ⟨vs[i], List.getElem?_eq_getElem hv, t.at_ i _ d (List.getElem?_eq_getElem hv) h⟩
theorem RepL.append {vs ws : List V} {ds es : List D} (t : RepL K mg S vs ds) (u : RepL K mg S ws es) : RepL K mg S (vs ++ ws) (ds ++ es) := by
  refine ⟨by rw [List.length_append, List.length_append, t.len, u.len], fun i w e a b => ?_⟩
  by_cases h : i < vs.length
  · rw [List.getElem?_append_left h] at a
    rw [List.getElem?_append_left (by rw [← t.len]; exact h)] at b
    exact t.at_ i w e a b
  · rw [List.getElem?_append_right (by omega)] at a
    rw [List.getElem?_append_right (by rw [← t.len]; omega), ← t.len] at b
    exact u.at_ _ w e a b
theorem RepL.snoc {vs : List V} {ds : List D} {v : V} {d : D} (t : RepL K mg S vs ds) (h : Rep K mg S v d) : RepL K mg S (vs ++ [v]) (ds ++ [d]) := t.append (.cons h .nil)
theorem RepL.set {vs : List V} {ds : List D} {v : V} {d : D} (t : RepL K mg S vs ds) (j : Nat) (h : Rep K mg S v d) : RepL K mg S (vs.set j v) (ds.set j d) := by
  refine ⟨by rw [List.length_set, List.length_set, t.len], fun i w e a b => ?_⟩
  rw [List.getElem?_set] at a b
  by_cases hj : j = i
  · subst hj
    rw [if_pos rfl] at a b
    split at a
    · rename_i h1
      rw [if_pos (by rw [← t.len]; exact h1)] at b
      cases a; cases b
      exact h
    · cases a
  · rw [if_neg hj] at a b
    exact t.at_ i w e a b
theorem RepL.take {vs : List V} {ds : List D} (n : Nat) (t : RepL K mg S vs ds) : RepL K mg S (vs.take n) (ds.take n) := by
  refine ⟨by rw [List.length_take, List.length_take, t.len], fun i w e a b => ?_⟩
  rw [List.getElem?_take] at a b
  split at a
  · rename_i h
    rw [if_pos h] at b
    exact t.at_ i w e a b
  · cases a
theorem RepL.drop {vs : List V} {ds : List D} (n : Nat) (t : RepL K mg S vs ds) : RepL K mg S (vs.drop n) (ds.drop n) := by
  refine ⟨by rw [List.length_drop, List.length_drop, t.len], fun i w e a b => ?_⟩
  rw [List.getElem?_drop] at a b
  exact t.at_ _ w e a b
theorem RepL.eraseIdx {vs : List V} {ds : List D} (n : Nat) (t : RepL K mg S vs ds) : RepL K mg S (vs.eraseIdx n) (ds.eraseIdx n) := by
  rw [List.eraseIdx_eq_take_drop_succ, List.eraseIdx_eq_take_drop_succ]
  exact (t.take n).append (t.drop (n + 1))
theorem Rep.lstL {a : Addr} {vs : List V} {ds : List D} (h : S a = some (.lst vs)) (t : RepL K mg S vs ds) : Rep K mg S (.ref a) (.lst ds) := .lst h t.len t.at_
theorem Rep.tupL {a : Addr} {vs : List V} {ds : List D} (h : S a = some (.tup vs)) (t : RepL K mg S vs ds) : Rep K mg S (.ref a) (.tup ds) := .tup h t.len t.at_
theorem Rep.of_lst {v : V} {ds : List D} (h : Rep K mg S v (.lst ds)) : ∃ a vs, v = .ref a ∧ S a = some (.lst vs) ∧ RepL K mg S vs ds := by
  cases h with
  | lst h hl hi => exact ⟨_, _, rfl, h, hl, hi⟩
theorem Rep.of_frl {v : V} {ds : List D} (h : Rep K mg S v (.frl ds)) : ∃ a vs, v = .ref a ∧ SqL K S a vs ∧ RepL K mg S vs ds := by
  cases h with
  | frl h hl hi => exact ⟨_, _, rfl, h, hl, hi⟩
theorem Rep.of_tupS {v : V} {ds : List D} (h : Rep K mg S v (.tup ds)) : ∃ a vs, v = .ref a ∧ S a = some (.tup vs) ∧ RepL K mg S vs ds := by
  cases h with
  | tup h hl hi => exact ⟨_, _, rfl, h, hl, hi⟩
theorem Rep.of_tup {v : V} {ds : List D} (h : Rep K mg S v (.tup ds)) : ∃ a vs, v = .ref a ∧ SqT K S a vs ∧ RepL K mg S vs ds := by
  obtain ⟨a, vs, e, h, r⟩ := h.of_tupS
  exact ⟨a, vs, e, .inl (.inl h), r⟩
theorem Rep.of_int {v : V} {i : Int} (h : Rep K mg S v (.int i)) : v = .int i := by cases h; rfl
theorem Rep.of_bl {v : V} {i : Bool} (h : Rep K mg S v (.bl i)) : v = .bl i := by cases h; rfl
/-- whole numbers -/
theorem RepL.ints : ∀ {vs : List V} {ns : List Int}, RepL K mg S vs (ns.map D.int) → vs = ns.map V.int
  | [], [], _ => rfl
  | [], _ :: _, h => by have := h.len; simp at this
  | _ :: _, [], h => by have := h.len; simp at this
  | v :: vs, n :: ns, h => by
    have e1 := h.head.of_int
    have e2 := RepL.ints (ns := ns) h.tail
    rw [e1, e2]
    rfl
theorem RepL.bls : ∀ {vs : List V} {ns : List Bool}, RepL K mg S vs (ns.map D.bl) → vs = ns.map V.bl
  | [], [], _ => rfl
  | [], _ :: _, h => by have := h.len; simp at this
  | _ :: _, [], h => by have := h.len; simp at this
  | v :: vs, n :: ns, h => by
    have e1 := h.head.of_bl
    have e2 := RepL.bls (ns := ns) h.tail
    rw [e1, e2]
    rfl
theorem RepL.of_ints : ∀ (ns : List Int), RepL K mg S (ns.map V.int) (ns.map D.int)
  | [] => .nil
  | n :: ns => .cons (.int n) (RepL.of_ints ns)
/-- from the view S of H to the view S' of H': all that stood stands; what the view has more is new -/
structure Step (S H S' H' : Hp) : Prop where
  hh : Same H H'
  ss : Same S S'
  sub : Same S' H'
  new : ∀ a, S' a ≠ none → S a ≠ none ∨ H a = none
theorem Step.refl (h : Same S H) : Step S H S H := ⟨Same.refl _, Same.refl _, h, fun _ x => .inl x⟩
theorem Step.trans {S1 H1 S2 H2 : Hp} (a : Step S H S1 H1) (b : Step S1 H1 S2 H2) : Step S H S2 H2 :=
  ⟨a.hh.trans b.hh, a.ss.trans b.ss, b.sub, fun x h => by
    rcases b.new x h with h | h
    · exact a.new x h
    · exact .inr (a.hh.free h)⟩
theorem Same.upd_new {H : Hp} {p : Addr} {o : HO} (h : H p = none) : Same H (upd H p o) := fun b x e => by
  rw [upd_ne (ne_of_none e h)]
  exact e
/-- a new object that the view takes in -/
theorem Step.laid {p : Addr} {o : HO} (h : Same S H) (hp : H p = none) : Step S H (upd S p o) (upd H p o) := by
  have sp : S p = none := h.free hp
  refine ⟨Same.upd_new hp, Same.upd_new sp, fun b x e => ?_, fun a x => ?_⟩
  · by_cases hb : b = p
    · subst hb
      rw [upd_same] at e ⊢
      exact e
    · rw [upd_ne hb] at e ⊢
      exact h b x e
  · by_cases ha : a = p
    · subst ha
      exact .inr hp
    · rw [upd_ne ha] at x
      exact .inl x
/-- a new object that the view does not take in -/
theorem Step.hid {p : Addr} {o : HO} (h : Same S H) (hp : H p = none) : Step S H S (upd H p o) :=
  ⟨Same.upd_new hp, Same.refl _, h.trans (Same.upd_new hp), fun _ x => .inl x⟩
theorem Step.out {S H S' H' : Hp} (a : Step S H S' H') {p : Addr} {o : HO} (h : S p = none) (hp : H p = some o) : S' p = none := by
  cases e : S' p with
  | none => rfl
  | some u =>
    rcases a.new p (by rw [e]; exact fun z => nomatch z) with z | z
    · exact absurd h z
    · rw [hp] at z; cases z
end
/-- shared data; a list that is the slot's own; an own list of own lists; an own dict (keys ints and texts; tuples) -/
inductive Md where
  | sh | ow | ow2 | dk | dt | ob (p : Addr) | ex (a : Addr) (cls : Value) (dd : Option Addr)
  /-- an own list that stands at q; an own tree of lists, n deep, one of whose lists is lent, that stands at a known place -/
  | owq (q : Addr) | tr (n : Nat) (h : Option (Nat × Addr)) (at_ : Option Addr)
  /-- a dict whose keys are tuples, its values trees of one's own, n deep -/
  | dw (n : Nat)
  deriving DecidableEq
/-- what stands in the place of a list that is lent -/
def junk : D := .exc "" [] []
/-- a tree of lists of one's own, n deep -/
def OwnTr (K : PySem.W.Frag) (mg : Str → Option Value) (S H : Hp) : Nat → List Addr → V → D → Prop
  | 0, fp, v, d => Rep K mg S v d ∧ fp = []
  | n + 1, fp, v, d => ∃ (p : Addr) (vs : List V) (ds : List D) (fps : List (List Addr)), v = .ref p ∧ d = .lst ds ∧ fp = p :: fps.flatten ∧ S p = none ∧ H p = some (.lst vs) ∧ vs.length = ds.length ∧ fps.length = ds.length ∧
      ∀ (j : Nat) (w : V) (e : D) (f : List Addr), vs[j]? = some w → ds[j]? = some e → fps[j]? = some f → OwnTr K mg S H n f w e
/-- .. whose list number k, at q, is lent -/
def OwnTh (K : PySem.W.Frag) (mg : Str → Option Value) (S H : Hp) (n k : Nat) (q : Addr) (fp : List Addr) (v : V) (d : D) : Prop :=
  ∃ (p : Addr) (vs : List V) (ds : List D) (fps : List (List Addr)), v = .ref p ∧ d = .lst ds ∧ fp = p :: fps.flatten ∧ S p = none ∧ H p = some (.lst vs) ∧ vs.length = ds.length ∧ fps.length = ds.length ∧
      vs[k]? = some (.ref q) ∧ ds[k]? = some junk ∧ fps[k]? = some [] ∧
      ∀ (j : Nat) (w : V) (e : D) (f : List Addr), j ≠ k → vs[j]? = some w → ds[j]? = some e → fps[j]? = some f → OwnTr K mg S H n f w e
/-- a dict of such trees -/
def OwnTd (K : PySem.W.Frag) (mg : Str → Option Value) (S H : Hp) (n : Nat) (fp : List Addr) (v : V) (d : D) : Prop :=
  ∃ (p : Addr) (kvs : List (List Key × V)) (ds : List D) (fps : List (List Addr)), v = .ref p ∧ d = .dit (kvs.map (·.1)) ds ∧ fp = p :: fps.flatten ∧ S p = none ∧ H p = some (.dT kvs) ∧ kvs.length = ds.length ∧ fps.length = ds.length ∧
      ∀ (j : Nat) (w : List Key × V) (e : D) (f : List Addr), kvs[j]? = some w → ds[j]? = some e → fps[j]? = some f → OwnTr K mg S H n f w.2 e
/-- what v is under the mode, in the view S of H, standing at the addresses fp -/
def OwnAt (K : PySem.W.Frag) (mg : Str → Option Value) (S H : Hp) (fp : List Addr) (v : V) (d : D) : Md → Prop
  | .sh => Rep K mg S v d ∧ fp = []
  | .ow => ∃ p vs ds, v = .ref p ∧ d = .lst ds ∧ fp = [p] ∧ S p = none ∧ H p = some (.lst vs) ∧ RepL K mg S vs ds
  | .ow2 => ∃ (p : Addr) (ps : List Addr) (dss : List (List D)), v = .ref p ∧ d = .lst (dss.map D.lst) ∧ fp = p :: ps ∧ S p = none ∧ H p = some (.lst (ps.map V.ref)) ∧ ps.length = dss.length ∧
      ∀ (j : Nat) (q : Addr) (ds : List D), ps[j]? = some q → dss[j]? = some ds → S q = none ∧ ∃ vs, H q = some (.lst vs) ∧ RepL K mg S vs ds
  | .dk => ∃ (p : Addr) (kvs : List (Key × V)) (ds : List D), v = .ref p ∧ d = .dic (kvs.map (·.1)) ds ∧ fp = [p] ∧ S p = none ∧ H p = some (.dK kvs) ∧ RepL K mg S (kvs.map (·.2)) ds
  | .dt => ∃ (p : Addr) (kvs : List (List Key × V)) (ds : List D), v = .ref p ∧ d = .dit (kvs.map (·.1)) ds ∧ fp = [p] ∧ S p = none ∧ H p = some (.dT kvs) ∧ RepL K mg S (kvs.map (·.2)) ds
  | .ob p => ∃ (dx C : Addr) (c : Str) (fs : List (Str × V)) (ds : List D), v = .ref p ∧ d = .obj c (fs.map (·.1)) ds ∧ fp = [p, dx] ∧ S p = none ∧ S dx = none ∧ mg c = some (.ref C) ∧ H p = some (.ins C dx fs) ∧ H dx = some (.own p) ∧ RepL K mg S (fs.map (·.2)) ds
  | .owq q => v = .ref q ∧ ∃ p vs ds, v = .ref p ∧ d = .lst ds ∧ fp = [p] ∧ S p = none ∧ H p = some (.lst vs) ∧ RepL K mg S vs ds
  | .dw n => OwnTd K mg S H n fp v d
  | .tr n none a => (∀ q, a = some q → v = .ref q) ∧ OwnTr K mg S H n fp v d
  | .tr n (some (k, q)) a => (∀ q, a = some q → v = .ref q) ∧ OwnTh K mg S H (n - 1) k q fp v d
  | .ex a cls dd => ∃ (c : Str) (vfs : List (Str × V)) (ds : List D), v = .ref a ∧ d = .exc c (vfs.map (·.1)) ds ∧ fp = [] ∧ mg c = some cls ∧ ((vfs = [] ∧ dd = none) ∨ ∃ dx, dd = some dx ∧ S dx = some (.xd vfs)) ∧ RepL K mg S (vfs.map (·.2)) ds
section
variable {K : PySem.W.Frag} {mg : Str → Option Value} {S S' H H' : Hp} {fp : List Addr} {v : V} {d : D} {md : Md}
theorem mem_flat {fps : List (List Addr)} {a : Addr} (h : a ∈ fps.flatten) : ∃ (j : Nat) (f : List Addr), fps[j]? = some f ∧ a ∈ f := by
  obtain ⟨f, hf, ha⟩ := List.mem_flatten.mp h
  obtain ⟨j, hj⟩ := List.mem_iff_getElem?.mp hf
  exact ⟨j, f, hj, ha⟩
theorem flat_mem {fps : List (List Addr)} {a : Addr} {j : Nat} {f : List Addr} (hj : fps[j]? = some f) (ha : a ∈ f) : a ∈ fps.flatten := List.mem_flatten.mpr ⟨f, List.mem_of_getElem? hj, ha⟩
theorem OwnTr.step (a : Step S H S' H') : ∀ {n : Nat} {fp : List Addr} {v : V} {d : D}, OwnTr K mg S H n fp v d → OwnTr K mg S' H' n fp v d
  | 0, _, _, _, h => ⟨h.1.mono a.ss, h.2⟩
  | n + 1, _, _, _, h => by
    obtain ⟨p, vs, ds, fps, e1, e2, e3, e4, e5, e6, e7, e8⟩ := h
    exact ⟨p, vs, ds, fps, e1, e2, e3, a.out e4 e5, a.hh _ _ e5, e6, e7, fun j w e f x y z => (e8 j w e f x y z).step a⟩
theorem OwnTr.out : ∀ {n : Nat} {fp : List Addr} {v : V} {d : D}, OwnTr K mg S H n fp v d → ∀ {a : Addr}, a ∈ fp → S a = none ∧ ∃ o, H a = some o
  | 0, _, _, _, h, a, ha => by rw [h.2] at ha; cases ha
  | n + 1, _, _, _, h, a, ha => by
    obtain ⟨p, vs, ds, fps, e1, e2, e3, e4, e5, e6, e7, e8⟩ := h
    rw [e3] at ha
    rcases List.mem_cons.mp ha with rfl | ha
    · exact ⟨e4, _, e5⟩
    · obtain ⟨j, f, hj, hf⟩ := mem_flat ha
      have hl := (List.getElem?_eq_some_iff.mp hj).1
      exact (e8 j _ _ f (List.getElem?_eq_getElem (by omega)) (List.getElem?_eq_getElem (by omega)) hj).out hf
theorem OwnTr.other {p : Addr} {o : HO} (hp : S p = none) : ∀ {n : Nat} {fp : List Addr} {v : V} {d : D}, p ∉ fp → OwnTr K mg S H n fp v d → OwnTr K mg S (upd H p o) n fp v d
  | 0, _, _, _, _, h => h
  | n + 1, _, _, _, hf, h => by
    obtain ⟨q, vs, ds, fps, e1, e2, e3, e4, e5, e6, e7, e8⟩ := h
    refine ⟨q, vs, ds, fps, e1, e2, e3, e4, ?_, e6, e7, fun j w e f x y z => (e8 j w e f x y z).other hp fun i => hf ?_⟩
    · rw [upd_ne (fun z => hf (by rw [e3, z]; exact List.mem_cons_self))]
      exact e5
    · rw [e3]; exact List.mem_cons_of_mem _ (flat_mem z i)
theorem OwnTh.step {n k : Nat} {q : Addr} (a : Step S H S' H') (h : OwnTh K mg S H n k q fp v d) : OwnTh K mg S' H' n k q fp v d := by
  obtain ⟨p, vs, ds, fps, e1, e2, e3, e4, e5, e6, e7, h1, h2, h3, e8⟩ := h
  exact ⟨p, vs, ds, fps, e1, e2, e3, a.out e4 e5, a.hh _ _ e5, e6, e7, h1, h2, h3, fun j w e f i x y z => (e8 j w e f i x y z).step a⟩
theorem OwnTh.out {n k : Nat} {q : Addr} (h : OwnTh K mg S H n k q fp v d) {a : Addr} (ha : a ∈ fp) : S a = none ∧ ∃ o, H a = some o := by
  obtain ⟨p, vs, ds, fps, e1, e2, e3, e4, e5, e6, e7, h1, h2, h3, e8⟩ := h
  rw [e3] at ha
  rcases List.mem_cons.mp ha with rfl | ha
  · exact ⟨e4, _, e5⟩
  · obtain ⟨j, f, hj, hf⟩ := mem_flat ha
    have hl := (List.getElem?_eq_some_iff.mp hj).1
    have hjk : j ≠ k := fun z => by subst z; rw [h3] at hj; cases hj; cases hf
    exact (e8 j _ _ f hjk (List.getElem?_eq_getElem (by omega)) (List.getElem?_eq_getElem (by omega)) hj).out hf
theorem OwnTh.other {n k : Nat} {q : Addr} {p : Addr} {o : HO} (hp : S p = none) (hf : p ∉ fp) (h : OwnTh K mg S H n k q fp v d) : OwnTh K mg S (upd H p o) n k q fp v d := by
  obtain ⟨p', vs, ds, fps, e1, e2, e3, e4, e5, e6, e7, h1, h2, h3, e8⟩ := h
  refine ⟨p', vs, ds, fps, e1, e2, e3, e4, ?_, e6, e7, h1, h2, h3, fun j w e f i x y z => (e8 j w e f i x y z).other hp fun i => hf ?_⟩
  · rw [upd_ne (fun z => hf (by rw [e3, z]; exact List.mem_cons_self))]
    exact e5
  · rw [e3]; exact List.mem_cons_of_mem _ (flat_mem z i)
theorem OwnTd.step {n : Nat} (a : Step S H S' H') (h : OwnTd K mg S H n fp v d) : OwnTd K mg S' H' n fp v d := by
  obtain ⟨p, kvs, ds, fps, e1, e2, e3, e4, e5, e6, e7, e8⟩ := h
  exact ⟨p, kvs, ds, fps, e1, e2, e3, a.out e4 e5, a.hh _ _ e5, e6, e7, fun j w e f x y z => (e8 j w e f x y z).step a⟩
theorem OwnTd.out {n : Nat} (h : OwnTd K mg S H n fp v d) {a : Addr} (ha : a ∈ fp) : S a = none ∧ ∃ o, H a = some o := by
  obtain ⟨p, kvs, ds, fps, e1, e2, e3, e4, e5, e6, e7, e8⟩ := h
  rw [e3] at ha
  rcases List.mem_cons.mp ha with rfl | ha
  · exact ⟨e4, _, e5⟩
  · obtain ⟨j, f, hj, hf⟩ := mem_flat ha
    have hl := (List.getElem?_eq_some_iff.mp hj).1
    exact (e8 j _ _ f (List.getElem?_eq_getElem (by omega)) (List.getElem?_eq_getElem (by omega)) hj).out hf
theorem OwnTd.other {n : Nat} {p : Addr} {o : HO} (hp : S p = none) (hf : p ∉ fp) (h : OwnTd K mg S H n fp v d) : OwnTd K mg S (upd H p o) n fp v d := by
  obtain ⟨q, kvs, ds, fps, e1, e2, e3, e4, e5, e6, e7, e8⟩ := h
  refine ⟨q, kvs, ds, fps, e1, e2, e3, e4, ?_, e6, e7, fun j w e f x y z => (e8 j w e f x y z).other hp fun i => hf ?_⟩
  · rw [upd_ne (fun z => hf (by rw [e3, z]; exact List.mem_cons_self))]
    exact e5
  · rw [e3]; exact List.mem_cons_of_mem _ (flat_mem z i)
theorem OwnAt.step (a : Step S H S' H') (h : OwnAt K mg S H fp v d md) : OwnAt K mg S' H' fp v d md := by
  cases md with
  | owq q0 =>
    obtain ⟨e0, p, vs, ds, e1, e2, e3, e4, e5, e6⟩ := h
    exact ⟨e0, p, vs, ds, e1, e2, e3, a.out e4 e5, a.hh _ _ e5, e6.mono a.ss⟩
  | tr n b at_ =>
    cases b with
    | none => exact ⟨h.1, h.2.step a⟩
    | some kq => exact ⟨h.1, h.2.step a⟩
  | ex a0 b0 c0 =>
    obtain ⟨c, vfs, ds, e1, e2, e3, e4, e5, e6⟩ := h
    refine ⟨c, vfs, ds, e1, e2, e3, e4, e5.imp id fun ⟨dx, y1, y2⟩ => ⟨dx, y1, a.ss _ _ y2⟩, e6.mono (a.ss)⟩
  | dw n => exact OwnTd.step a h
  | sh => exact ⟨h.1.mono a.ss, h.2⟩
  | ow =>
    obtain ⟨p, vs, ds, e1, e2, e3, e4, e5, e6⟩ := h
    exact ⟨p, vs, ds, e1, e2, e3, a.out e4 e5, a.hh _ _ e5, e6.mono a.ss⟩
  | ow2 =>
    obtain ⟨p, ps, dss, e1, e2, e3, e4, e5, e6, e7⟩ := h
    refine ⟨p, ps, dss, e1, e2, e3, a.out e4 e5, a.hh _ _ e5, e6, fun j q ds x y => ?_⟩
    obtain ⟨z1, vs, z2, z3⟩ := e7 j q ds x y
    exact ⟨a.out z1 z2, vs, a.hh _ _ z2, z3.mono a.ss⟩
  | dk =>
    obtain ⟨p, vs, ds, e1, e2, e3, e4, e5, e6⟩ := h
    exact ⟨p, vs, ds, e1, e2, e3, a.out e4 e5, a.hh _ _ e5, e6.mono a.ss⟩
  | dt =>
    obtain ⟨p, vs, ds, e1, e2, e3, e4, e5, e6⟩ := h
    exact ⟨p, vs, ds, e1, e2, e3, a.out e4 e5, a.hh _ _ e5, e6.mono a.ss⟩
  | ob p =>
    obtain ⟨dx, C, c, fs, ds, e1, e2, e3, e4, e5, e6, e7, e8, e9⟩ := h
    exact ⟨dx, C, c, fs, ds, e1, e2, e3, a.out e4 e7, a.out e5 e8, e6, a.hh _ _ e7, a.hh _ _ e8, e9.mono a.ss⟩
/-- its addresses are tracked, and out of the view -/
theorem OwnAt.out (h : OwnAt K mg S H fp v d md) {a : Addr} (ha : a ∈ fp) : S a = none ∧ ∃ o, H a = some o := by
  cases md with
  | owq q0 =>
    obtain ⟨e0, p, vs, ds, e1, e2, e3, e4, e5, e6⟩ := h
    rw [e3] at ha
    have : a = p := by simpa using ha
    subst this
    exact ⟨e4, _, e5⟩
  | tr n b at_ =>
    cases b with
    | none => exact h.2.out ha
    | some kq => exact h.2.out ha
  | ex a0 b0 c0 =>
    obtain ⟨c, vfs, ds, e1, e2, e3, e4, e5, e6⟩ := h
    rw [e3] at ha; cases ha
  | dw n => exact OwnTd.out h ha
  | sh => rw [h.2] at ha; cases ha
  | ow =>
    obtain ⟨p, vs, ds, e1, e2, e3, e4, e5, e6⟩ := h
    rw [e3] at ha
    have : a = p := by simpa using ha
    subst this
    exact ⟨e4, _, e5⟩
  | ow2 =>
    obtain ⟨p, ps, dss, e1, e2, e3, e4, e5, e6, e7⟩ := h
    rw [e3] at ha
    rcases List.mem_cons.mp ha with z | z
    · subst z; exact ⟨e4, _, e5⟩
    · obtain ⟨j, hj⟩ := List.mem_iff_getElem?.mp z
      have hl : j < dss.length := by rw [← e6]; exact (List.getElem?_eq_some_iff.mp hj).1
      obtain ⟨z1, vs, z2, _⟩ := e7 j a _ hj (List.getElem?_eq_getElem hl)
      exact ⟨z1, _, z2⟩
  | dk =>
    obtain ⟨p, vs, ds, e1, e2, e3, e4, e5, e6⟩ := h
    rw [e3] at ha
    have : a = p := by simpa using ha
    subst this
    exact ⟨e4, _, e5⟩
  | dt =>
    obtain ⟨p, vs, ds, e1, e2, e3, e4, e5, e6⟩ := h
    rw [e3] at ha
    have : a = p := by simpa using ha
    subst this
    exact ⟨e4, _, e5⟩
  | ob p =>
    obtain ⟨dx, C, c, fs, ds, e1, e2, e3, e4, e5, e6, e7, e8, e9⟩ := h
    rw [e3] at ha
    have : a = p ∨ a = dx := by simpa using ha
    rcases this with rfl | rfl
    · exact ⟨e4, _, e7⟩
    · exact ⟨e5, _, e8⟩
/-- another object is written -/
theorem OwnAt.other {p : Addr} {o : HO} (hp : S p = none) (hf : p ∉ fp) (h : OwnAt K mg S H fp v d md) : OwnAt K mg S (upd H p o) fp v d md := by
  cases md with
  | owq q0 =>
    obtain ⟨e0, q, vs, ds, e1, e2, e3, e4, e5, e6⟩ := h
    refine ⟨e0, q, vs, ds, e1, e2, e3, e4, ?_, e6⟩
    rw [upd_ne (fun z => hf (by rw [e3, z]; exact List.mem_cons_self))]
    exact e5
  | tr n b at_ =>
    cases b with
    | none => exact ⟨h.1, h.2.other hp hf⟩
    | some kq => exact ⟨h.1, h.2.other hp hf⟩
  | ex a0 b0 c0 => exact h
  | dw n => exact OwnTd.other hp hf h
  | sh => exact h
  | ow =>
    obtain ⟨q, vs, ds, e1, e2, e3, e4, e5, e6⟩ := h
    refine ⟨q, vs, ds, e1, e2, e3, e4, ?_, e6⟩
    rw [upd_ne (fun z => hf (by rw [e3, z]; exact List.mem_cons_self))]
    exact e5
  | ow2 =>
    obtain ⟨q, ps, dss, e1, e2, e3, e4, e5, e6, e7⟩ := h
    refine ⟨q, ps, dss, e1, e2, e3, e4, ?_, e6, fun j r ds x y => ?_⟩
    · rw [upd_ne (fun z => hf (by rw [e3, z]; exact List.mem_cons_self))]
      exact e5
    · obtain ⟨z1, vs, z2, z3⟩ := e7 j r ds x y
      refine ⟨z1, vs, ?_, z3⟩
      rw [upd_ne (fun z => hf (by rw [e3, ← z]; exact List.mem_cons_of_mem _ (List.mem_of_getElem? x)))]
      exact z2
  | dk =>
    obtain ⟨q, vs, ds, e1, e2, e3, e4, e5, e6⟩ := h
    refine ⟨q, vs, ds, e1, e2, e3, e4, ?_, e6⟩
    rw [upd_ne (fun z => hf (by rw [e3, z]; exact List.mem_cons_self))]
    exact e5
  | dt =>
    obtain ⟨q, vs, ds, e1, e2, e3, e4, e5, e6⟩ := h
    refine ⟨q, vs, ds, e1, e2, e3, e4, ?_, e6⟩
    rw [upd_ne (fun z => hf (by rw [e3, z]; exact List.mem_cons_self))]
    exact e5
  | ob q =>
    obtain ⟨dx, C, c, fs, ds, e1, e2, e3, e4, e5, e6, e7, e8, e9⟩ := h
    refine ⟨dx, C, c, fs, ds, e1, e2, e3, e4, e5, e6, ?_, ?_, e9⟩
    · rw [upd_ne (fun z => hf (by rw [e3, z]; exact List.mem_cons_self))]
      exact e7
    · rw [upd_ne (fun z => hf (by rw [e3, z]; exact List.mem_cons_of_mem _ List.mem_cons_self))]
      exact e8
end
/-- the data of the slots; none: nothing is known of the slot -/
abbrev Env := List (Option D)
abbrev Mds := List Md
def mdAt (m : Mds) (i : Nat) : Md := m.getD i .sh
/-- the slots σ hold the data ρ, each by its mode, standing at F -/
structure EnvF (K : PySem.W.Frag) (mg : Str → Option Value) (m : Mds) (F : Nat → List Addr) (S H : Hp) (σ : St) (ρ : Env) : Prop where
  len : ρ.length = σ.length
  at_ : ∀ i d, ρ[i]? = some (some d) → ∃ v, σ[i]? = some (some v) ∧ OwnAt K mg S H (F i) v d (mdAt m i)
  nd : ∀ i d, ρ[i]? = some (some d) → (F i).Nodup
  apart : ∀ i j d e, i ≠ j → ρ[i]? = some (some d) → ρ[j]? = some (some e) → ∀ a, a ∈ F i → a ∉ F j
def EnvM (K : PySem.W.Frag) (mg : Str → Option Value) (m : Mds) (S H : Hp) (σ : St) (ρ : Env) : Prop := Same S H ∧ ∃ F, EnvF K mg m F S H σ ρ
section
variable {K : PySem.W.Frag} {mg : Str → Option Value} {m : Mds} {F : Nat → List Addr} {S S' H H' : Hp} {σ : St} {ρ : Env}
theorem EnvF.step (a : Step S H S' H') (h : EnvF K mg m F S H σ ρ) : EnvF K mg m F S' H' σ ρ :=
  ⟨h.len, fun i d e => by
    obtain ⟨v, e1, e2⟩ := h.at_ i d e
    exact ⟨v, e1, e2.step a⟩, h.nd, h.apart⟩
theorem EnvM.step (a : Step S H S' H') (h : EnvM K mg m S H σ ρ) : EnvM K mg m S' H' σ ρ := by
  obtain ⟨_, F, h⟩ := h
  exact ⟨a.sub, F, h.step a⟩
end
end Da
namespace Da
open PySem PySem.Spec L2
section
variable {K : PySem.W.Frag} {mg : Str → Option Value} {E : XK} {S S' H H' : Hp}
/-- an own exception: its class, its own dict -/
def ExcAt (K : PySem.W.Frag) (mg : Str → Option Value) (S H : Hp) (cls : Value) (dd : Option Addr) (c : Str) (fs : List (Str × D)) : Prop :=
  mg c = some cls ∧ ((fs = [] ∧ dd = none) ∨ ∃ a vfs, dd = some a ∧ S a = some (.xd vfs) ∧ vfs.map (·.1) = fs.map (·.1) ∧ RepL K mg S (vfs.map (·.2)) (fs.map (·.2)))
/-- what is wanted of a run's end -/
def PostW {α : Type} (K : PySem.W.Frag) (mg : Str → Option Value) (E : XK) (S H : Hp) (r : Res α) (k : α → Hp → Hp → Prop) : Prop := match r with
  | .ok a => ∀ S' H', Step S H S' H' → k a S' H'
  | .ex c fs => ∀ S' H' cls dd, Step S H S' H' → ExcAt K mg S' H' cls dd c fs → E cls dd H'
  | .er => False
/-- .. of a value's -/
def Post (K : PySem.W.Frag) (mg : Str → Option Value) (E : XK) (S H : Hp) (md : Md) (r : Res D) (Q : VK) : Prop := match r with
  | .ok d => ∀ v S' H' fp, Step S H S' H' → OwnAt K mg S' H' fp v d md → fp.Nodup → (∀ a ∈ fp, H a = none) → Q v H'
  | .ex c fs => ∀ S' H' cls dd, Step S H S' H' → ExcAt K mg S' H' cls dd c fs → E cls dd H'
  | .er => False
theorem PostW.step {α : Type} {r : Res α} {k : α → Hp → Hp → Prop} (st : Step S H S' H') (h : PostW K mg E S H r k) : PostW K mg E S' H' r k := by
  cases r with
  | ok a => exact fun S2 H2 s2 => h S2 H2 (st.trans s2)
  | ex c fs => exact fun S2 H2 cls dd s2 => h S2 H2 cls dd (st.trans s2)
  | er => exact h
theorem Post.step {md : Md} {r : Res D} {Q : VK} (st : Step S H S' H') (h : Post K mg E S H md r Q) : Post K mg E S' H' md r Q := by
  cases r with
  | ok a => exact fun v S2 H2 fp s2 o n f => h v S2 H2 fp (st.trans s2) o n fun a ha => st.hh.free (f a ha)
  | ex c fs => exact fun S2 H2 cls dd s2 => h S2 H2 cls dd (st.trans s2)
  | er => exact h
theorem Post.bind {α : Type} {md : Md} {r : Res α} {f : α → Res D} {Q : VK} (h : Post K mg E S H md (r.bind f) Q) : PostW K mg E S H r fun a S1 H1 => Post K mg E S1 H1 md (f a) Q := by
  cases r with
  | ok a => exact fun S2 H2 s2 => Post.step s2 h
  | ex c fs => exact h
  | er => exact h
theorem PostW.bind {α β : Type} {r : Res α} {f : α → Res β} {k : β → Hp → Hp → Prop} (h : PostW K mg E S H (r.bind f) k) : PostW K mg E S H r fun a S1 H1 => PostW K mg E S1 H1 (f a) k := by
  cases r with
  | ok a => exact fun S2 H2 s2 => PostW.step s2 h
  | ex c fs => exact h
  | er => exact h
theorem PostW.imp {α : Type} {r : Res α} {k k' : α → Hp → Hp → Prop} (h : PostW K mg E S H r k) (g : ∀ a S' H', Step S H S' H' → k a S' H' → k' a S' H') : PostW K mg E S H r k' := by
  cases r with
  | ok a => exact fun S2 H2 s2 => g a S2 H2 s2 (h S2 H2 s2)
  | ex c fs => exact h
  | er => exact h
/-- a shared value is handed on -/
theorem PostW.post {r : Res D} {k : D → Hp → Hp → Prop} {Q : VK} (h : PostW K mg E S H r k) (g : ∀ d v S' H', Step S H S' H' → Rep K mg S' v d → k d S' H' → Q v H') : Post K mg E S H .sh r Q := by
  cases r with
  | ok a => exact fun v S2 H2 fp s2 o n f => g a v S2 H2 s2 o.1 (h S2 H2 s2)
  | ex c fs => exact h
  | er => exact h
theorem PostW.postM {md : Md} {r : Res D} {k : D → Hp → Hp → Prop} {Q : VK} (h : PostW K mg E S H r k) (g : ∀ d v S' H' fp, Step S H S' H' → OwnAt K mg S' H' fp v d md → fp.Nodup → (∀ a ∈ fp, H a = none) → k d S' H' → Q v H') : Post K mg E S H md r Q := by
  cases r with
  | ok a => exact fun v S2 H2 fp s2 o n f => g a v S2 H2 fp s2 o n f (h S2 H2 s2)
  | ex c fs => exact h
  | er => exact h
/-- a shared value that stands already -/
theorem Post.val {d : D} {v : V} {Q : VK} (h : Post K mg E S H .sh (.ok d) Q) (hs : Same S H) (r : Rep K mg S v d) : Q v H := h v S H [] (Step.refl hs) ⟨r, rfl⟩ List.nodup_nil (fun a z => nomatch z)
/-- a new list, a new tuple -/
theorem Post.lst {ds : List D} {vs : List V} {p : Addr} {Q : VK} (h : Post K mg E S H .sh (.ok (.lst ds)) Q) (hs : Same S H) (r : RepL K mg S vs ds) (hp : H p = none) : Q (.ref p) (upd H p (.lst vs)) :=
  h _ _ _ [] (Step.laid hs hp) ⟨Rep.lstL upd_same (r.mono (Step.laid hs hp).ss), rfl⟩ List.nodup_nil (fun a z => nomatch z)
theorem Post.tup {ds : List D} {vs : List V} {p : Addr} {Q : VK} (h : Post K mg E S H .sh (.ok (.tup ds)) Q) (hs : Same S H) (r : RepL K mg S vs ds) (hp : H p = none) : Q (.ref p) (upd H p (.tup vs)) :=
  h _ _ _ [] (Step.laid hs hp) ⟨Rep.tupL upd_same (r.mono (Step.laid hs hp).ss), rfl⟩ List.nodup_nil (fun a z => nomatch z)
/-- a new list that is one's own -/
theorem Post.own {ds : List D} {vs : List V} {p : Addr} {Q : VK} (h : Post K mg E S H .ow (.ok (.lst ds)) Q) (hs : Same S H) (r : RepL K mg S vs ds) (hp : H p = none) : Q (.ref p) (upd H p (.lst vs)) :=
  h _ S _ [p] (Step.hid hs hp) ⟨p, vs, ds, rfl, rfl, rfl, hs.free hp, upd_same, r⟩ (by simp) (fun a z => by
    have : a = p := by simpa using z
    rw [this]; exact hp)
/-- a list, kept or shared -/
theorem Post.list {md : Md} (hmd : md = .sh ∨ md = .ow) {ds : List D} {vs : List V} {p : Addr} {Q : VK} (h : Post K mg E S H md (.ok (.lst ds)) Q) (hs : Same S H) (r : RepL K mg S vs ds) (hp : H p = none) : Q (.ref p) (upd H p (.lst vs)) := by
  rcases hmd with rfl | rfl
  · exact h.lst hs r hp
  · exact h.own hs r hp
end
def tE (K : PySem.W.Frag) (mg : Str → Option Value) (E : WX) (m : Mds) (md : Md) (f : Env → Res D) : TE := fun σ H Q => ∃ S ρ, EnvM K mg m S H σ ρ ∧ Post K mg (WE E σ) S H md (f ρ) Q
def tT (K : PySem.W.Frag) (mg : Str → Option Value) (E : WX) (m : Mds) (f : Env → Res Bool) : TT := fun σ H Q => ∃ S ρ, EnvM K mg m S H σ ρ ∧ PostW K mg (WE E σ) S H (f ρ) fun b _ H' => Q b H'
def tA (K : PySem.W.Frag) (mg : Str → Option Value) (E : WX) (m : Mds) (f : Env → Res (List D)) : TA := fun σ H Q => ∃ S ρ, EnvM K mg m S H σ ρ ∧ PostW K mg (WE E σ) S H (f ρ) fun ds S' H' => ∀ vs, RepL K mg S' vs ds → Q vs H'
structure JE (X : Cx) (E : WX) (m : Mds) (md : Md) (e : Expr) (f : Env → Res D) : Prop where
  pe : PE X e (tE X.K X.mg E m md f)
structure JT (X : Cx) (E : WX) (m : Mds) (e : Expr) (f : Env → Res Bool) : Prop where
  pt : PT X e (tT X.K X.mg E m f)
structure JW (X : Cx) (E : WX) (m : Mds) (e : Expr) (f : Env → Res Bool) : Prop where
  pw : PW X e (tT X.K X.mg E m f)
structure JA (X : Cx) (E : WX) (m : Mds) (es : List Expr) (f : Env → Res (List D)) : Prop where
  pa : PA X es (tA X.K X.mg E m f)
section
variable {X : Cx} {e : Expr} {es : List Expr}
theorem PEimp {t t' : TE} (h : PE X e t) (g : ∀ σ H Q, t' σ H Q → t σ H Q) : PE X e t' := ⟨fun pins s σ H Q I q => h.run pins s σ H Q I (g σ H Q q)⟩
theorem PTimp {t t' : TT} (h : PT X e t) (g : ∀ σ H Q, t' σ H Q → t σ H Q) : PT X e t' := ⟨fun pins s σ H Q I q => h.run pins s σ H Q I (g σ H Q q)⟩
theorem PWimp {t t' : TT} (h : PW X e t) (g : ∀ σ H Q, t' σ H Q → t σ H Q) : PW X e t' := ⟨fun wh pins s σ H Q I q => h.run wh pins s σ H Q I (g σ H Q q)⟩
theorem PAimp {t t' : TA} (h : PA X es t) (g : ∀ σ H Q, t' σ H Q → t σ H Q) : PA X es t' := ⟨fun pos pins s σ H Q I q => h.run pos pins s σ H Q I (g σ H Q q)⟩
end
def fC (d : D) : Env → Res D := fun _ => .ok d
def fV (i : Nat) : Env → Res D := fun ρ => match ρ[i]? with
  | some (some d) => .ok d
  | _ => .er
def f1 (g : D → Res D) (fa : Env → Res D) : Env → Res D := fun ρ => (fa ρ).bind g
def f2 (g : D → D → Res D) (fa fb : Env → Res D) : Env → Res D := fun ρ => (fa ρ).bind fun x => (fb ρ).bind fun y => g x y
def fA0 : Env → Res (List D) := fun _ => .ok []
def fA (fa : Env → Res D) (fr : Env → Res (List D)) : Env → Res (List D) := fun ρ => (fa ρ).bind fun x => (fr ρ).bind fun xs => .ok (x :: xs)
def fOn (g : List D → Res D) (fa : Env → Res (List D)) : Env → Res D := fun ρ => (fa ρ).bind g
def asB : D → Res Bool
  | .bl b => .ok b
  | _ => .er
/-- an operation on values does what g says -/
def OpD (K : PySem.W.Frag) (mg : Str → Option Value) (md : Md) (r : R2) (g : D → D → Res D) : Prop :=
  ∀ (E : XK) (S H : Hp) (x y : V) (dx dy : D) (Q : VK), Same S H → Rep K mg S x dx → Rep K mg S y dy → Post K mg E S H md (g dx dy) Q → r x y H Q
def UnD (K : PySem.W.Frag) (mg : Str → Option Value) (md : Md) (r : V → Hp → VK → Prop) (g : D → Res D) : Prop :=
  ∀ (E : XK) (S H : Hp) (x : V) (dx : D) (Q : VK), Same S H → Rep K mg S x dx → Post K mg E S H md (g dx) Q → r x H Q
def CallD (K : PySem.W.Frag) (mg : Str → Option Value) (md : Md) (r : List V → Hp → VK → Prop) (g : List D → Res D) : Prop :=
  ∀ (E : XK) (S H : Hp) (xs : List V) (ds : List D) (Q : VK), Same S H → RepL K mg S xs ds → Post K mg E S H md (g ds) Q → r xs H Q
section
variable {X : Cx} {E : WX} {m : Mds} {md : Md} {a b : Expr} {es : List Expr} {fa fb : Env → Res D} {pos : Pos}
theorem two {t : R2} {g : D → D → Res D} {K : PySem.W.Frag} {mg : Str → Option Value} (hr : OpD K mg md t g) {σ : L2.St} {H : Hp} {Q : VK} (h : tE K mg E m md (f2 g fa fb) σ H Q) : tOp t (tE K mg E m .sh fa) (tE K mg E m .sh fb) σ H Q := by
  obtain ⟨S, ρ, hm, hp⟩ := h
  refine ⟨S, ρ, hm, (Post.bind hp).post fun dx v S1 H1 s1 r1 h1 => ?_⟩
  exact ⟨S1, ρ, hm.step s1, (Post.bind h1).post fun dy w S2 H2 s2 r2 h2 => hr _ S2 H2 v w dx dy Q s2.sub (r1.mono s2.ss) r2 h2⟩
theorem one {t : V → Hp → VK → Prop} {g : D → Res D} {K : PySem.W.Frag} {mg : Str → Option Value} (hr : UnD K mg md t g) {σ : L2.St} {H : Hp} {Q : VK} (h : tE K mg E m md (f1 g fa) σ H Q) : tUn t (tE K mg E m .sh fa) σ H Q := by
  obtain ⟨S, ρ, hm, hp⟩ := h
  exact ⟨S, ρ, hm, (Post.bind hp).post fun dx v S1 H1 s1 r1 h1 => hr _ S1 H1 v dx Q s1.sub r1 h1⟩
theorem je_op {op : Operator} {r : R2} {g : D → D → Res D} (ho : OpR X (binaryOp op) r) (hr : OpD X.K X.mg md r g) (ha : JE X E m .sh a fa) (hb : JE X E m .sh b fb) : JE X E m md (.BinOp a op b pos) (f2 g fa fb) :=
  ⟨PEimp (pe_op ho ha.pe hb.pe) fun σ H Q h => two hr h⟩
theorem je_un {op : UnaryOp} {r : V → Hp → VK → Prop} {g : D → Res D} (ho : UnR X (unaryOp op) r) (hr : UnD X.K X.mg md r g) (ha : JE X E m .sh a fa) : JE X E m md (.UnaryOp op a pos) (f1 g fa) :=
  ⟨PEimp (pe_un ho ha.pe) fun σ H Q h => one hr h⟩
theorem je_cmp {op : CmpOp} {r : R2} {g : D → D → Res D} (ho : OpR X (compareOp op) r) (hr : OpD X.K X.mg .sh r g) (ha : JE X E m .sh a fa) (hb : JE X E m .sh b fb) (hm : behindInMarks op b = false := by rfl) : JE X E m .sh (.Compare a [op] [b] pos) (f2 g fa fb) :=
  ⟨PEimp (pe_cmpR ho ha.pe hb.pe hm) fun σ H Q h => two hr h⟩
theorem je_ix {r : R2} {g : D → D → Res D} (ho : IxR X r) (hr : OpD X.K X.mg .sh r g) (ha : JE X E m .sh a fa) (hb : JE X E m .sh b fb) (hs : PlainIx b := by intro _ _; rfl) : JE X E m .sh (.Subscript a b pos) (f2 g fa fb) :=
  ⟨PEimp (pe_ix ho ha.pe hb.pe hs) fun σ H Q h => two hr h⟩
/-- a value that is a bool, as a test -/
def fB (f : Env → Res D) : Env → Res Bool := fun ρ => (f ρ).bind asB
theorem jt_cmp {op : CmpOp} {r : R2} {g : D → D → Res D} (ho : OpR X (compareOp op) r) (hr : OpD X.K X.mg .sh r g) (ha : JE X E m .sh a fa) (hb : JE X E m .sh b fb) (hm : behindInMarks op b = false := by rfl) : JT X E m (.Compare a [op] [b] pos) (fB (f2 g fa fb)) := by
  refine ⟨PTimp (pt_cmpR ho ha.pe hb.pe hm) fun σ H Q h => ?_⟩
  obtain ⟨S, ρ, hm, hp⟩ := h
  have k : tE X.K X.mg E m .sh (f2 g fa fb) σ H fun x H' => ∃ k, x = .bl k ∧ Q k H' := by
    refine ⟨S, ρ, hm, (PostW.bind hp).post fun d v S1 H1 s1 r1 h1 => ?_⟩
    cases d with
    | bl c =>
      cases r1
      exact ⟨c, rfl, h1 S1 H1 (Step.refl s1.sub)⟩
    | _ => exact h1.elim
  exact two hr k
theorem je_int {i : Int} {j} : JE X E m .sh (.Constant (.int i) j pos) (fC (.int i)) := ⟨PEimp pe_int fun σ H Q h => by obtain ⟨S, ρ, hm, hp⟩ := h; exact Post.val hp hm.1 (.int i)⟩
theorem je_bl {i : Bool} {j} : JE X E m .sh (.Constant (.bool i) j pos) (fC (.bl i)) := ⟨PEimp pe_bl fun σ H Q h => by obtain ⟨S, ρ, hm, hp⟩ := h; exact Post.val hp hm.1 (.bl i)⟩
theorem je_non {j} : JE X E m .sh (.Constant .none j pos) (fC .non) := ⟨PEimp pe_non fun σ H Q h => by obtain ⟨S, ρ, hm, hp⟩ := h; exact Post.val hp hm.1 .non⟩
/-- a name whose data are shared -/
theorem je_var (i : Nat) {x : Str} (hmd : mdAt m i = .sh := by rfl) (hN : X.N[i]? = some x := by rfl) (hv : Vis X.env.scope x := by first | exact Or.inl rfl | exact Or.inr (Or.inl rfl) | exact Or.inr (Or.inr rfl)) (hd : (x == ("__debug__" : Str)) = false := by decide)
    (hcd : (x == ("__classdict__" : Str)) = false := by decide) : JE X E m .sh (.Name x pos) (fV i) := by
  refine ⟨PEimp (pe_var hN hv hd hcd) fun σ H Q h => ?_⟩
  obtain ⟨S, ρ, ⟨hs, F, hm⟩, hp⟩ := h
  unfold fV at hp
  split at hp
  · rename_i d e
    obtain ⟨v, e1, e2⟩ := hm.at_ i d e
    rw [hmd] at e2
    exact ⟨v, e1, hp.val hs e2.1⟩
  · exact hp.elim
theorem ja_nil : JA X E m [] fA0 := ⟨PAimp pa_nil fun σ H Q h => by obtain ⟨S, ρ, hm, hp⟩ := h; exact hp S H (Step.refl hm.1) [] .nil⟩
theorem ja_cons {fr : Env → Res (List D)} (ha : JE X E m .sh a fa) (hr : JA X E m es fr) (hs : starEach (a :: es) X.env = (false, eval a X.env) :: starEach es X.env := by rfl) : JA X E m (a :: es) (fA fa fr) := by
  refine ⟨PAimp (pa_cons ha.pe hr.pa hs) fun σ H Q h => ?_⟩
  obtain ⟨S, ρ, hm, hp⟩ := h
  refine ⟨S, ρ, hm, (PostW.bind hp).post fun d v S1 H1 s1 r1 h1 => ?_⟩
  refine ⟨S1, ρ, hm.step s1, (PostW.bind h1).imp fun ds S2 H2 s2 h2 vs rs => ?_⟩
  exact h2 S2 H2 (Step.refl s2.sub) (v :: vs) (.cons (r1.mono s2.ss) rs)
def gTupD (ds : List D) : Res D := if ds.length ≤ 100000 then .ok (.tup ds) else .er
def gLstD (ds : List D) : Res D := if ds.length ≤ 100000 then .ok (.lst ds) else .er
theorem small5 {n : Nat} (h : n ≤ 100000) : n ≤ sizeLine := by rw [sizeLine_eq]; omega
theorem je_tup {fr : Env → Res (List D)} {x1} (h : JA X E m es fr) : JE X E m .sh (.Tuple es x1 pos) (fOn gTupD fr) := by
  refine ⟨PEimp (pe_tup h.pa) fun σ H Q h => ?_⟩
  obtain ⟨S, ρ, hm, hp⟩ := h
  refine ⟨S, ρ, hm, (Post.bind hp).imp fun ds S1 H1 s1 h1 vs rs => ?_⟩
  unfold gTupD at h1
  split at h1
  · rename_i hz
    exact ⟨by rw [rs.len]; exact small5 hz, fun p hp => h1.tup s1.sub rs hp⟩
  · exact h1.elim
theorem je_lst {fr : Env → Res (List D)} (h : JA X E m es fr) (hmd : md = .sh ∨ md = .ow := by first | exact .inl rfl | exact .inr rfl) : JE X E m md (.List es pos) (fOn gLstD fr) := by
  refine ⟨PEimp (pe_lst h.pa) fun σ H Q h => ?_⟩
  obtain ⟨S, ρ, hm, hp⟩ := h
  refine ⟨S, ρ, hm, (Post.bind hp).imp fun ds S1 H1 s1 h1 vs rs => ?_⟩
  unfold gLstD at h1
  split at h1
  · rename_i hz
    exact ⟨by rw [rs.len]; exact small5 hz, fun p hp => h1.list hmd s1.sub rs hp⟩
  · exact h1.elim
def fAnd (fa fb : Env → Res Bool) : Env → Res Bool := fun ρ => (fa ρ).bind fun c => if c = true then fb ρ else .ok false
def fOr (fa fb : Env → Res Bool) : Env → Res Bool := fun ρ => (fa ρ).bind fun c => if c = true then .ok true else fb ρ
def fNot (fa : Env → Res Bool) : Env → Res Bool := fun ρ => (fa ρ).bind fun c => .ok (!c)
def fIf (fc : Env → Res Bool) (fa fb : Env → Res D) : Env → Res D := fun ρ => (fc ρ).bind fun c => if c = true then fa ρ else fb ρ
variable {ga gb gc : Env → Res Bool} {c : Expr} {rest : List Expr}
theorem JW.jt (h : JW X E m a ga) : JT X E m a ga := ⟨h.pw.pt⟩
theorem jw_and1 (ha : JT X E m a ga) : JW X E m (.BoolOp .And [a] pos) ga := ⟨pw_and1 ha.pt⟩
theorem jw_or1 (ha : JT X E m a ga) : JW X E m (.BoolOp .Or [a] pos) ga := ⟨pw_or1 ha.pt⟩
theorem and_ok {K : PySem.W.Frag} {mg : Str → Option Value} {σ : L2.St} {H : Hp} {Q : Bool → Hp → Prop} (h : tT K mg E m (fAnd ga gb) σ H Q) : tAnd (tT K mg E m ga) (tT K mg E m gb) σ H Q := by
  obtain ⟨S, ρ, hm, hp⟩ := h
  refine ⟨S, ρ, hm, (PostW.bind hp).imp fun d S1 H1 s1 h1 => ?_⟩
  cases d with
  | true => exact ⟨S1, ρ, hm.step s1, h1⟩
  | false => exact h1 S1 H1 (Step.refl s1.sub)
theorem or_ok {K : PySem.W.Frag} {mg : Str → Option Value} {σ : L2.St} {H : Hp} {Q : Bool → Hp → Prop} (h : tT K mg E m (fOr ga gb) σ H Q) : tOr (tT K mg E m ga) (tT K mg E m gb) σ H Q := by
  obtain ⟨S, ρ, hm, hp⟩ := h
  refine ⟨S, ρ, hm, (PostW.bind hp).imp fun d S1 H1 s1 h1 => ?_⟩
  cases d with
  | false => exact ⟨S1, ρ, hm.step s1, h1⟩
  | true => exact h1 S1 H1 (Step.refl s1.sub)
theorem jw_and (ha : JT X E m a ga) (hb : JW X E m (.BoolOp .And (b :: rest) pos) gb) : JW X E m (.BoolOp .And (a :: b :: rest) pos) (fAnd ga gb) :=
  ⟨PWimp (pw_and ha.pt hb.pw) fun σ H Q h => and_ok h⟩
theorem jw_or (ha : JT X E m a ga) (hb : JW X E m (.BoolOp .Or (b :: rest) pos) gb) : JW X E m (.BoolOp .Or (a :: b :: rest) pos) (fOr ga gb) :=
  ⟨PWimp (pw_or ha.pt hb.pw) fun σ H Q h => or_ok h⟩
theorem jt_not (ha : JT X E m a ga) : JT X E m (.UnaryOp .Not a pos) (fNot ga) := by
  refine ⟨PTimp (pt_not ha.pt) fun σ H Q h => ?_⟩
  obtain ⟨S, ρ, hm, hp⟩ := h
  exact ⟨S, ρ, hm, (PostW.bind hp).imp fun d S1 H1 s1 h1 => h1 S1 H1 (Step.refl s1.sub)⟩
/-- as values: all are bools -/
def fBv (f : Env → Res Bool) : Env → Res D := fun ρ => (f ρ).bind fun b => .ok (.bl b)
theorem je_and (ha : JE X E m .sh a fa) (hb : JE X E m .sh (.BoolOp .And (b :: rest) pos) (fBv gb)) : JE X E m .sh (.BoolOp .And (a :: b :: rest) pos) (fBv (fAnd (fB fa) gb)) := by
  refine ⟨PEimp (pe_and ha.pe hb.pe) fun σ H Q h => ?_⟩
  obtain ⟨S, ρ, hm, hp⟩ := h
  refine ⟨S, ρ, hm, (PostW.bind (PostW.bind (Post.bind hp))).post fun d v S1 H1 s1 r1 h1 => ?_⟩
  cases d with
  | bl c =>
    cases r1
    refine ⟨c, rfl, ?_⟩
    have h1 := h1 S1 H1 (Step.refl s1.sub)
    cases c with
    | true =>
      refine ⟨S1, ρ, hm.step s1, ?_⟩
      show Post _ _ _ _ _ _ ((gb ρ).bind _) Q
      revert h1
      show PostW _ _ _ _ _ (gb ρ) _ → _
      cases gb ρ with
      | ok x => exact fun h1 => h1 S1 H1 (Step.refl s1.sub)
      | ex c fs => exact fun h1 => h1
      | er => exact fun h1 => h1
    | false =>
      have h2 := h1 S1 H1 (Step.refl s1.sub)
      exact Post.val h2 s1.sub (.bl false)
  | _ => exact h1.elim
/-- the last one -/
theorem je_last {op} (ha : JE X E m .sh a fa) : JE X E m .sh (.BoolOp op [a] pos) (fBv (fB fa)) := by
  refine ⟨PEimp (pe_one ha.pe) fun σ H Q h => ?_⟩
  obtain ⟨S, ρ, hm, hp⟩ := h
  refine ⟨S, ρ, hm, (PostW.bind (Post.bind hp)).post fun d v S1 H1 s1 r1 h1 => ?_⟩
  cases d with
  | bl c => exact Post.val (h1 S1 H1 (Step.refl s1.sub)) s1.sub r1
  | _ => exact h1.elim
theorem je_not (ha : JE X E m .sh a fa) : JE X E m .sh (.UnaryOp .Not a pos) (fBv (fNot (fB fa))) := by
  refine ⟨PEimp (pe_not ha.pe) fun σ H Q h => ?_⟩
  obtain ⟨S, ρ, hm, hp⟩ := h
  refine ⟨S, ρ, hm, (PostW.bind (PostW.bind (Post.bind hp))).post fun d v S1 H1 s1 r1 h1 => ?_⟩
  cases d with
  | bl c =>
    cases r1
    exact ⟨c, rfl, Post.val (h1 S1 H1 (Step.refl s1.sub) S1 H1 (Step.refl s1.sub)) s1.sub (.bl _)⟩
  | _ => exact h1.elim
end
end Da
namespace Da
open PySem PySem.Spec L2
def dI (c : Int → Int → Bool) (g : Int → Int → Int) : D → D → Res D
  | .int i, .int j => if c i j = true then .ok (.int (g i j)) else .er
  | _, _ => .er
def dP (p : Int → Int → Bool) : D → D → Res D
  | .int i, .int j => .ok (.bl (p i j))
  | _, _ => .er
def yes2 (_ _ : Int) : Bool := true
def mulOk (i j : Int) : Bool := stuck (i.natAbs.log2 + j.natAbs.log2 < 1000000)
theorem mulOk_yes {i j : Int} (h : i.natAbs.log2 + j.natAbs.log2 < 1000000) : mulOk i j = true := stuck_iff.mpr h
theorem mulOk_lt {i j : Int} (h : mulOk i j = true) : i.natAbs.log2 + j.natAbs.log2 < 1000000 := stuck_iff.mp h
def divOk (_ j : Int) : Bool := stuck (j ≠ 0 ∧ j.natAbs.log2 < 9000)
def modOk (_ j : Int) : Bool := decide (j ≠ 0)
def powOk (i j : Int) : Bool := stuck (0 ≤ j ∧ j ≤ 1000000 ∧ i.natAbs < 18446744073709551616)
section
variable {K : PySem.W.Frag} {mg : Str → Option Value} {E : XK} {S S' H H' : Hp}
theorem opd_I {C : Int → Int → Prop} {g : Int → Int → Int} {c : Int → Int → Bool} (hc : ∀ i j, c i j = true → C i j) : OpD K mg .sh (rI C fun i j => .int (g i j)) (dI c g) := by
  intro E S H x y dx dy Q hs rx ry h
  cases dx with
  | int i =>
    cases dy with
    | int j =>
      simp only [dI] at h
      split at h
      · rename_i hcc
        cases rx; cases ry
        exact ⟨i, j, rfl, rfl, hc i j hcc, h.val hs (.int _)⟩
      · exact h.elim
    | _ => exact h.elim
  | _ => exact h.elim
theorem opd_I0 {g : Int → Int → Int} : OpD K mg .sh (rI0 fun i j => .int (g i j)) (dI yes2 g) := by
  intro E S H x y dx dy Q hs rx ry h
  cases dx with
  | int i =>
    cases dy with
    | int j =>
      cases rx; cases ry
      exact ⟨i, j, rfl, rfl, Post.val h hs (.int _)⟩
    | _ => exact h.elim
  | _ => exact h.elim
theorem opd_P {p : Int → Int → Bool} : OpD K mg .sh (rI0 fun i j => .bl (p i j)) (dP p) := by
  intro E S H x y dx dy Q hs rx ry h
  cases dx with
  | int i =>
    cases dy with
    | int j =>
      cases rx; cases ry
      exact ⟨i, j, rfl, rfl, Post.val h hs (.bl _)⟩
    | _ => exact h.elim
  | _ => exact h.elim
end
section
variable {X : Cx}
def CDivX (_ j : Int) : Prop := j ≠ 0 ∧ j.natAbs.log2 < 9000
theorem op_fdivX : OpR X (binaryOp .FloorDiv) (rI CDivX fun i j => .int (i.fdiv j)) :=
  opI fun _ _ _ _ _ _ _ hc q => PyProof.Rows.floordiv_int hc.1 q (.inl (PyProof.noPylong_of_log2 hc.2))
end
section
variable {X : Cx} {E : WX} {m : Mds} {md : Md} {a b : Expr} {es : List Expr} {fa fb : Env → Res D} {pos : Pos}
def dSub := dI yes2 (fun i j => i - j)
def dMul := dI mulOk (fun i j => i * j)
def dDiv := dI divOk (fun i j => i.fdiv j)
def dMod := dI modOk (fun i j => i.fmod j)
def dPow := dI powOk (fun i j => i ^ j.toNat)
def dLt := dP (fun i j => decide (i < j))
def dLe := dP (fun i j => decide (i ≤ j))
def dGt := dP (fun i j => decide (j < i))
def dGe := dP (fun i j => decide (j ≤ i))
theorem je_sub (ha : JE X E m .sh a fa) (hb : JE X E m .sh b fb) : JE X E m .sh (.BinOp a .Sub b pos) (f2 dSub fa fb) := je_op op_sub opd_I0 ha hb
theorem je_mulI (ha : JE X E m .sh a fa) (hb : JE X E m .sh b fb) : JE X E m .sh (.BinOp a .Mult b pos) (f2 dMul fa fb) := je_op op_mulW (opd_I fun i j h => mulOk_lt h) ha hb
theorem je_div (ha : JE X E m .sh a fa) (hb : JE X E m .sh b fb) : JE X E m .sh (.BinOp a .FloorDiv b pos) (f2 dDiv fa fb) := je_op op_fdivX (opd_I fun i j h => stuck_iff.mp h) ha hb
theorem je_mod (ha : JE X E m .sh a fa) (hb : JE X E m .sh b fb) : JE X E m .sh (.BinOp a .Mod b pos) (f2 dMod fa fb) := je_op op_modN (opd_I fun i j h => of_decide_eq_true h) ha hb
theorem powOk_ok {i j : Int} (h : powOk i j = true) : CPow i j := by
  obtain ⟨h1, h2, h3⟩ := stuck_iff.mp h
  exact ⟨h1, h2, by
    show i.natAbs < 2 ^ 64
    omega⟩
theorem je_pow (ha : JE X E m .sh a fa) (hb : JE X E m .sh b fb) : JE X E m .sh (.BinOp a .Pow b pos) (f2 dPow fa fb) := je_op op_pow (opd_I fun i j h => powOk_ok h) ha hb
def dNeg : D → Res D
  | .int i => .ok (.int (-i))
  | _ => .er
theorem je_neg (ha : JE X E m .sh a fa) : JE X E m .sh (.UnaryOp .USub a pos) (f1 dNeg fa) := je_un un_neg (fun E S H x dx Q hs rx h => by
  cases dx with
  | int i =>
    cases rx
    exact ⟨i, rfl, Post.val h hs (.int _)⟩
  | _ => exact h.elim) ha
theorem jt_lt (ha : JE X E m .sh a fa) (hb : JE X E m .sh b fb) : JT X E m (.Compare a [.Lt] [b] pos) (fB (f2 dLt fa fb)) := jt_cmp op_lt opd_P ha hb (nomark _)
theorem jt_ge (ha : JE X E m .sh a fa) (hb : JE X E m .sh b fb) : JT X E m (.Compare a [.GtE] [b] pos) (fB (f2 dGe fa fb)) := jt_cmp op_ge opd_P ha hb (nomark _)
end
def szOk (n : Nat) : Bool := stuck (n ≤ 1000000)
theorem szOk_yes {n : Nat} (h : n ≤ 1000000) : szOk n = true := stuck_iff.mpr h
theorem szOk_le {n : Nat} (h : szOk n = true) : n ≤ 1000000 := stuck_iff.mp h
theorem szOk_ok {n : Nat} (h : szOk n = true) : n ≤ sizeLine := by
  have := szOk_le h
  rw [sizeLine_eq]; omega
def dAdd : D → D → Res D
  | .int i, .int j => .ok (.int (i + j))
  | .lst a, .lst b => if szOk (a.length + b.length) = true then .ok (.lst (a ++ b)) else .er
  | .tup a, .tup b => if szOk (a.length + b.length) = true then .ok (.tup (a ++ b)) else .er
  | .str a, .str b => if szOk (a.length + b.length) = true then .ok (.str (a ++ b)) else .er
  | _, _ => .er
def dAddL : D → D → Res D
  | .lst a, .lst b => if szOk (a.length + b.length) = true then .ok (.lst (a ++ b)) else .er
  | _, _ => .er
abbrev rStrAdd : R2 := fun x y H Q => ∃ i j, x = .str i ∧ y = .str j ∧ i.length + j.length ≤ sizeLine ∧ Q (.str (i ++ j)) H
def rAddAll (K : PySem.W.Frag) : R2 := fun x y H Q => ((rI0 fun i j => .int (i + j)) x y H Q ∨ rCat x y H Q) ∨ (rCatA K x y H Q ∨ rStrAdd x y H Q)
section
variable {K : PySem.W.Frag} {mg : Str → Option Value} {X : Cx} {E : WX} {m : Mds} {md : Md} {a b : Expr} {es : List Expr} {fa fb : Env → Res D} {pos : Pos}
theorem op_addAll : OpR X (binaryOp .Add) (rAddAll X.K) := OpR.or (OpR.or op_add op_cat) (OpR.or op_catA op_add_str)
theorem Post.of_if {md : Md} {E : XK} {S H : Hp} {r : Res D} {c : Bool} {Q : VK} (h : Post K mg E S H md (if c = true then r else .er) Q) : c = true ∧ Post K mg E S H md r Q := by
  split at h
  · rename_i hc; exact ⟨hc, h⟩
  · exact h.elim
theorem RepL.nil_iff {S : Hp} {vs : List V} {ds : List D} (r : RepL K mg S vs ds) : vs = [] ↔ ds = [] := by
  have := r.len
  constructor
  · intro h; subst h; exact List.eq_nil_of_length_eq_zero this.symm
  · intro h; subst h; exact List.eq_nil_of_length_eq_zero this
theorem catL {E : XK} {S H : Hp} {x y : V} {da db : List D} {Q : VK} (hmd : md = .sh ∨ md = .ow) (hs : Same S H) (rx : Rep K mg S x (.lst da)) (ry : Rep K mg S y (.lst db)) (h : Post K mg E S H md (if szOk (da.length + db.length) = true then .ok (.lst (da ++ db)) else .er) Q) : rCat x y H Q := by
  obtain ⟨hz, h⟩ := h.of_if
  obtain ⟨a, vs, rfl, ha, ra⟩ := rx.of_lst
  obtain ⟨b, ws, rfl, hb, rb⟩ := ry.of_lst
  exact ⟨a, b, vs, ws, rfl, rfl, hs _ _ ha, hs _ _ hb, by rw [ra.len, rb.len]; exact szOk_ok hz, fun p hp => h.list hmd hs (ra.append rb) hp⟩
theorem opd_add : OpD K mg .sh (rAddAll K) dAdd := by
  intro E S H x y dx dy Q hs rx ry h
  cases dx with
  | int i =>
    cases dy with
    | int j =>
      cases rx; cases ry
      exact .inl (.inl ⟨i, j, rfl, rfl, Post.val h hs (.int _)⟩)
    | _ => exact h.elim
  | str i =>
    cases dy with
    | str j =>
      obtain ⟨hz, h⟩ := Post.of_if h
      cases rx; cases ry
      exact .inr (.inr ⟨i, j, rfl, rfl, szOk_ok hz, Post.val h hs (.str _)⟩)
    | _ => exact h.elim
  | lst da =>
    cases dy with
    | lst db => exact .inl (.inr (catL (.inl rfl) hs rx ry h))
    | _ => exact h.elim
  | tup da =>
    cases dy with
    | tup db =>
      obtain ⟨hz, h⟩ := Post.of_if h
      obtain ⟨a, vs, rfl, ha, ra⟩ := rx.of_tup
      obtain ⟨b, ws, rfl, hb, rb⟩ := ry.of_tup
      refine .inr (.inl ⟨a, b, vs, ws, rfl, rfl, same_t hs ha, same_t hs hb, by rw [ra.len, rb.len]; exact szOk_ok hz, fun e => ?_, fun e1 e2 => ?_, fun _ _ p hp => h.tup hs (ra.append rb) hp⟩)
      · have e' := ra.nil_iff.mp e
        subst e'
        exact h.val hs ry
      · have e' := rb.nil_iff.mp e2
        subst e'
        rw [List.append_nil] at h
        exact h.val hs rx
    | _ => exact h.elim
  | _ => exact h.elim
theorem opd_addL : OpD K mg .ow (rAddAll K) dAddL := by
  intro E S H x y dx dy Q hs rx ry h
  cases dx with
  | lst da =>
    cases dy with
    | lst db => exact .inl (.inr (catL (.inr rfl) hs rx ry h))
    | _ => exact h.elim
  | _ => exact h.elim
theorem je_add (ha : JE X E m .sh a fa) (hb : JE X E m .sh b fb) : JE X E m .sh (.BinOp a .Add b pos) (f2 dAdd fa fb) := je_op op_addAll opd_add ha hb
theorem je_addL (ha : JE X E m .sh a fa) (hb : JE X E m .sh b fb) : JE X E m .ow (.BinOp a .Add b pos) (f2 dAddL fa fb) := je_op op_addAll opd_addL ha hb
end
def dIx : D → D → Res D
  | .lst xs, .int i => match atI xs i with
    | some d => .ok d
    | none => .er
  | .frl xs, .int i => match atI xs i with
    | some d => .ok d
    | none => .er
  | .tup xs, .int i => match atI xs i with
    | some d => .ok d
    | none => .er
  | .str x, .int i => if szOk x.length = true then (match atI x.cps.toList i with
    | some c => .ok (.str ⟨#[c]⟩)
    | none => .er) else .er
  | _, _ => .er
section
variable {K : PySem.W.Frag} {mg : Str → Option Value} {X : Cx} {E : WX} {m : Mds} {md : Md} {a b : Expr} {es : List Expr} {fa fb : Env → Res D} {pos : Pos}
theorem RepL.atI {S : Hp} {vs : List V} {ds : List D} {i : Int} {d : D} (r : RepL K mg S vs ds) (h : L2.atI ds i = some d) : ∃ v, L2.atI vs i = some v ∧ Rep K mg S v d := by
  unfold L2.atI at h ⊢
  rw [r.len]
  cases e : ixN ds.length i with
  | none => rw [e] at h; cases h
  | some j =>
    rw [e] at h
    exact r.get h
theorem opd_ix : OpD K mg .sh (rIx K) dIx := by
  intro E S H x y dx dy Q hs rx ry h
  cases dx with
  | lst xs =>
    cases dy with
    | int i =>
      cases ry
      simp only [dIx] at h
      split at h
      · rename_i d e
        obtain ⟨p, vs, rfl, hp, rv⟩ := rx.of_lst
        obtain ⟨v, ev, r⟩ := rv.atI e
        exact .inl ⟨p, vs, i, v, rfl, rfl, .inl (.inl (hs _ _ hp)), ev, h.val hs r⟩
      · exact h.elim
    | _ => exact h.elim
  | frl xs =>
    cases dy with
    | int i =>
      cases ry
      simp only [dIx] at h
      split at h
      · rename_i d e
        obtain ⟨p, vs, rfl, hp, rv⟩ := rx.of_frl
        obtain ⟨v, ev, r⟩ := rv.atI e
        exact .inl ⟨p, vs, i, v, rfl, rfl, same_l hs hp, ev, h.val hs r⟩
      · exact h.elim
    | _ => exact h.elim
  | tup xs =>
    cases dy with
    | int i =>
      cases ry
      simp only [dIx] at h
      split at h
      · rename_i d e
        obtain ⟨p, vs, rfl, hp, rv⟩ := rx.of_tup
        obtain ⟨v, ev, r⟩ := rv.atI e
        exact .inr (.inl ⟨p, vs, i, v, rfl, rfl, same_t hs hp, ev, h.val hs r⟩)
      · exact h.elim
    | _ => exact h.elim
  | str z =>
    cases dy with
    | int i =>
      cases ry
      simp only [dIx] at h
      obtain ⟨hz, h⟩ := Post.of_if h
      split at h
      · rename_i c e
        cases rx
        exact .inr (.inr ⟨z, i, c, rfl, rfl, szOk_ok hz, e, h.val hs (.str _)⟩)
      · exact h.elim
    | _ => exact h.elim
  | _ => exact h.elim
theorem je_item (ha : JE X E m .sh a fa) (hb : JE X E m .sh b fb) (hs : PlainIx b := by intro _ _; rfl) : JE X E m .sh (.Subscript a b pos) (f2 dIx fa fb) := je_ix ix_seq opd_ix ha hb hs
end
section
variable {K : PySem.W.Frag} {mg : Str → Option Value} {X : Cx} {E : WX} {m : Mds} {md : Md} {a b e : Expr} {es : List Expr} {fa fb : Env → Res D} {fs : Env → Res (List D)} {pos p : Pos} {x : Str} {id T : String} {r : List V → Hp → VK → Prop} {g : List D → Res D}
theorem call1 {K : PySem.W.Frag} {mg : Str → Option Value} (hr : CallD K mg md r g) {σ : L2.St} {H : Hp} {Q : VK} (h : tE K mg E m md (fOn g fs) σ H Q) : tCB r (tA K mg E m fs) σ H Q := by
  obtain ⟨S, ρ, hm, hp⟩ := h
  exact ⟨S, ρ, hm, (Post.bind hp).imp fun ds S1 H1 s1 h1 vs rs => hr _ S1 H1 vs ds Q s1.sub rs h1⟩
theorem je_callB (hc : CallR X (.builtin id) r) (hr : CallD X.K X.mg md r g) (hm : X.mg x = none) (ha : JA X E m (e :: es) fs) (hg : Gl X x := by rfl) (hv : bootBuiltins x = some (.builtin id) := by decide +kernel)
    (hn : x ≠ "__name__" := by decide) (hdb : (x == ("__debug__" : Str)) = false := by decide) (he : starEach (e :: es) X.env = (false, eval e X.env) :: starEach es X.env := by rfl) (hpl : (backTo pos (starEach es X.env)).any (·.1) = false := by rfl) :
    JE X E m md (.Call (.Name x p) (e :: es) [] pos) (fOn g fs) := ⟨PEimp (pe_callB hc hg hm hv ha.pa hn hdb he hpl) fun σ H Q h => call1 hr h⟩
theorem je_callTy (hc : CallR X (.type T) r) (hr : CallD X.K X.mg md r g) (hm : X.mg x = none) (ha : JA X E m (e :: es) fs) (hg : Gl X x := by rfl) (hv : bootBuiltins x = some (.type T) := by decide +kernel)
    (hn : x ≠ "__name__" := by decide) (hdb : (x == ("__debug__" : Str)) = false := by decide) (he : starEach (e :: es) X.env = (false, eval e X.env) :: starEach es X.env := by rfl) (hpl : (backTo pos (starEach es X.env)).any (·.1) = false := by rfl) :
    JE X E m md (.Call (.Name x p) (e :: es) [] pos) (fOn g fs) := ⟨PEimp (pe_callTy hc hg hm hv ha.pa hn hdb he hpl) fun σ H Q h => call1 hr h⟩
end
end Da
namespace Da
open PySem PySem.Spec L2
inductive Fl where
  | nx (ρ : Env) | rt (d : D) | bk (ρ : Env) | ct (ρ : Env) | xc (c : Str) (fs : List (Str × D)) (ρ : Env)
abbrev FS := Env → Res Fl
/-- an expression's end, in a statement -/
def lift {α : Type} (r : Res α) (ρ : Env) (k : α → Res Fl) : Res Fl := match r with
  | .ok a => k a
  | .ex c fs => .ok (.xc c fs ρ)
  | .er => .er
@[simp] theorem lift_ok {α : Type} (a : α) (ρ : Env) (k : α → Res Fl) : lift (.ok a) ρ k = k a := rfl
@[simp] theorem lift_ex {α : Type} (c : Str) (fs : List (Str × D)) (ρ : Env) (k : α → Res Fl) : lift (.ex c fs : Res α) ρ k = .ok (.xc c fs ρ) := rfl
@[simp] theorem lift_er {α : Type} (ρ : Env) (k : α → Res Fl) : lift (.er : Res α) ρ k = .er := rfl
section
variable {K : PySem.W.Frag} {mg : Str → Option Value} {m m1 m2 : Mds} {S0 H0 S S1 S' H H' H1 : Hp} {σ σ' : L2.St} {ρ : Env} {F : Nat → List Addr}
/-- the state of a body that was entered with the view S0 of H0 -/
def StF (K : PySem.W.Frag) (mg : Str → Option Value) (m : Mds) (S0 H0 S : Hp) (F : Nat → List Addr) (σ : L2.St) (ρ : Env) (H : Hp) : Prop :=
  Step S0 H0 S H ∧ EnvF K mg m F S H σ ρ ∧ ∀ i d, ρ[i]? = some (some d) → ∀ a, a ∈ F i → H0 a = none
def StM (K : PySem.W.Frag) (mg : Str → Option Value) (m : Mds) (S0 H0 : Hp) (σ : L2.St) (ρ : Env) (H : Hp) : Prop := ∃ S F, StF K mg m S0 H0 S F σ ρ H
theorem StF.envM (h : StF K mg m S0 H0 S F σ ρ H) : EnvM K mg m S H σ ρ := ⟨h.1.sub, F, h.2.1⟩
theorem StF.step (h : StF K mg m S0 H0 S F σ ρ H) (s : Step S H S' H') : StF K mg m S0 H0 S' F σ ρ H' := ⟨h.1.trans s, h.2.1.step s, h.2.2⟩
/-- the entry moved to the present view, and back -/
theorem Step.fwd (h : Step S0 H0 S H) : Step S H0 S H := ⟨h.hh, Same.refl _, h.sub, fun _ x => .inl x⟩
theorem Step.back (h : Step S0 H0 S H) (k : Step S H0 S' H') : Step S0 H0 S' H' := ⟨k.hh, h.ss.trans k.ss, k.sub, fun a x => by
  rcases k.new a x with z | z
  · exact h.new a z
  · exact .inr z⟩
/-- a value handed out of a body -/
def RetOk (K : PySem.W.Frag) (mg : Str → Option Value) (S0 H0 : Hp) (md : Md) (d : D) (v : V) (H : Hp) : Prop := ∃ S fp, Step S0 H0 S H ∧ OwnAt K mg S H fp v d md ∧ fp.Nodup ∧ ∀ a, a ∈ fp → H0 a = none
/-- the ends of the loop around, what a return hands out -/
structure Lp where
  mb : Mds := []
  mc : Mds := []
  md : Md := .sh
/-- all slots shared -/
def SPost (K : PySem.W.Frag) (mg : Str → Option Value) (E : WX) (L : Lp) (S0 H0 : Hp) (m' : Mds) (o : Res Fl) (Dn : Ends) : Prop := match o with
  | .ok (.nx ρ) => ∀ σ H, StM K mg m' S0 H0 σ ρ H → Dn.nx σ H
  | .ok (.rt d) => ∀ v H, RetOk K mg S0 H0 L.md d v H → Dn.rt v H
  | .ok (.bk ρ) => ∀ σ H, StM K mg L.mb S0 H0 σ ρ H → Dn.bk σ H
  | .ok (.ct ρ) => ∀ σ H, StM K mg L.mc S0 H0 σ ρ H → Dn.ct σ H
  | .ok (.xc c fs ρ) => ∀ σ S F H cls dd, StF K mg [] S0 H0 S F σ ρ H → ExcAt K mg S H cls dd c fs → E cls dd σ H
  | .ex _ _ => False
  | .er => False
def tS (K : PySem.W.Frag) (mg : Str → Option Value) (E : WX) (L : Lp) (m m' : Mds) (F : FS) : TS := fun Dn σ H => ∃ S0 H0 ρ, StM K mg m S0 H0 σ ρ H ∧ SPost K mg E L S0 H0 m' (F ρ) Dn
/-- what lies at the addresses A is taken into the view -/
noncomputable def take (S H : Hp) (A : Addr → Prop) : Hp := open Classical in fun a => if A a then H a else S a
theorem take_in {A : Addr → Prop} {a : Addr} (h : A a) : take S H A a = H a := by unfold take; rw [if_pos h]
theorem take_out {A : Addr → Prop} {a : Addr} (h : ¬ A a) : take S H A a = S a := by unfold take; rw [if_neg h]
theorem take_same {A : Addr → Prop} (h : Same S H) (ho : ∀ a, A a → S a = none) : Same S (take S H A) := fun a o e => by
  rw [take_out (fun z => by rw [ho a z] at e; cases e)]
  exact e
theorem take_sub {A : Addr → Prop} (h : Same S H) : Same (take S H A) H := fun a o e => by
  by_cases z : A a
  · rw [take_in z] at e; exact e
  · rw [take_out z] at e; exact h a o e
theorem OwnTr.shared {A : Addr → Prop} (hs : Same S H) (ho : ∀ a, A a → S a = none) : ∀ {n : Nat} {fp : List Addr} {v : V} {d : D}, OwnTr K mg S H n fp v d → (∀ a, a ∈ fp → A a) → Rep K mg (take S H A) v d
  | 0, _, _, _, h, _ => h.1.mono (take_same (A := A) hs ho)
  | n + 1, _, _, _, h, hA => by
    obtain ⟨p, vs, ds, fps, rfl, rfl, e3, e4, e5, e6, e7, e8⟩ := h
    refine Rep.lstL (vs := vs) (by rw [take_in (hA p (by rw [e3]; exact List.mem_cons_self))]; exact e5) ⟨e6, fun i v d a b => ?_⟩
    have hl := (List.getElem?_eq_some_iff.mp b).1
    have hj := List.getElem?_eq_getElem (l := fps) (i := i) (by omega)
    exact (e8 i v d _ a b hj).shared hs ho fun a ha => hA a (by rw [e3]; exact List.mem_cons_of_mem _ (flat_mem hj ha))
theorem OwnTr.stays {A : Addr → Prop} (hs : Same S H) (ho : ∀ a, A a → S a = none) : ∀ {n : Nat} {fp : List Addr} {v : V} {d : D}, OwnTr K mg S H n fp v d → (∀ a, a ∈ fp → ¬ A a) → OwnTr K mg (take S H A) H n fp v d
  | 0, _, _, _, h, _ => ⟨h.1.mono (take_same (A := A) hs ho), h.2⟩
  | n + 1, _, _, _, h, hA => by
    obtain ⟨p, vs, ds, fps, e1, e2, e3, e4, e5, e6, e7, e8⟩ := h
    exact ⟨p, vs, ds, fps, e1, e2, e3, by rw [take_out (hA p (by rw [e3]; exact List.mem_cons_self))]; exact e4, e5, e6, e7, fun j w e f x y z => (e8 j w e f x y z).stays hs ho fun a ha => hA a (by rw [e3]; exact List.mem_cons_of_mem _ (flat_mem z ha))⟩
theorem OwnTh.shared {A : Addr → Prop} {fp : List Addr} {v : V} {d : D} {n k : Nat} {q : Addr} (hs : Same S H) (ho : ∀ a, A a → S a = none) (h : OwnTh K mg S H n k q fp v d) (hA : ∀ a, a ∈ fp → A a) : Rep K mg (take S H A) v d := by
  obtain ⟨p, vs, ds, fps, rfl, rfl, e3, e4, e5, e6, e7, h1, h2, h3, e8⟩ := h
  refine Rep.lstL (vs := vs) (by rw [take_in (hA p (by rw [e3]; exact List.mem_cons_self))]; exact e5) ⟨e6, fun i v d a b => ?_⟩
  by_cases hik : i = k
  · subst hik
    rw [h1] at a; rw [h2] at b
    cases a; cases b
    exact .exc
  · have hl := (List.getElem?_eq_some_iff.mp b).1
    have hj := List.getElem?_eq_getElem (l := fps) (i := i) (by omega)
    exact (e8 i v d _ hik a b hj).shared hs ho fun a ha => hA a (by rw [e3]; exact List.mem_cons_of_mem _ (flat_mem hj ha))
theorem OwnTh.stays {A : Addr → Prop} {fp : List Addr} {v : V} {d : D} {n k : Nat} {q : Addr} (hs : Same S H) (ho : ∀ a, A a → S a = none) (h : OwnTh K mg S H n k q fp v d) (hA : ∀ a, a ∈ fp → ¬ A a) : OwnTh K mg (take S H A) H n k q fp v d := by
  obtain ⟨p, vs, ds, fps, e1, e2, e3, e4, e5, e6, e7, h1, h2, h3, e8⟩ := h
  exact ⟨p, vs, ds, fps, e1, e2, e3, by rw [take_out (hA p (by rw [e3]; exact List.mem_cons_self))]; exact e4, e5, e6, e7, h1, h2, h3, fun j w e f i x y z => (e8 j w e f i x y z).stays hs ho fun a ha => hA a (by rw [e3]; exact List.mem_cons_of_mem _ (flat_mem z ha))⟩
theorem OwnTd.shared {A : Addr → Prop} {fp : List Addr} {v : V} {d : D} {n : Nat} (hs : Same S H) (ho : ∀ a, A a → S a = none) (h : OwnTd K mg S H n fp v d) (hA : ∀ a, a ∈ fp → A a) : Rep K mg (take S H A) v d := by
  obtain ⟨p, kvs, ds, fps, rfl, rfl, e3, e4, e5, e6, e7, e8⟩ := h
  refine Rep.dit (by rw [take_in (hA p (by rw [e3]; exact List.mem_cons_self))]; exact e5) e6 fun i q d a b => ?_
  have hl := (List.getElem?_eq_some_iff.mp b).1
  have hj := List.getElem?_eq_getElem (l := fps) (i := i) (by omega)
  exact (e8 i q d _ a b hj).shared hs ho fun a ha => hA a (by rw [e3]; exact List.mem_cons_of_mem _ (flat_mem hj ha))
theorem OwnTd.stays {A : Addr → Prop} {fp : List Addr} {v : V} {d : D} {n : Nat} (hs : Same S H) (ho : ∀ a, A a → S a = none) (h : OwnTd K mg S H n fp v d) (hA : ∀ a, a ∈ fp → ¬ A a) : OwnTd K mg (take S H A) H n fp v d := by
  obtain ⟨p, kvs, ds, fps, e1, e2, e3, e4, e5, e6, e7, e8⟩ := h
  exact ⟨p, kvs, ds, fps, e1, e2, e3, by rw [take_out (hA p (by rw [e3]; exact List.mem_cons_self))]; exact e4, e5, e6, e7, fun j w e f x y z => (e8 j w e f x y z).stays hs ho fun a ha => hA a (by rw [e3]; exact List.mem_cons_of_mem _ (flat_mem z ha))⟩
theorem OwnAt.shared {A : Addr → Prop} {fp : List Addr} {v : V} {d : D} {md : Md} (h : OwnAt K mg S H fp v d md) (hs : Same S H) (ho : ∀ a, A a → S a = none) (hA : ∀ a, a ∈ fp → A a) : Rep K mg (take S H A) v d := by
  have ss := take_same (A := A) hs ho
  cases md with
  | owq q0 =>
    obtain ⟨e0, p, vs, ds, rfl, rfl, e3, e4, e5, e6⟩ := h
    exact Rep.lstL (by rw [take_in (hA p (by rw [e3]; exact List.mem_cons_self))]; exact e5) (e6.mono ss)
  | tr n b at_ =>
    cases b with
    | none => exact h.2.shared hs ho hA
    | some kq => exact h.2.shared hs ho hA
  | ex a0 b0 c0 =>
    obtain ⟨c, vfs, ds, e1, e2, e3, e4, e5, e6⟩ := h
    rw [e1, e2]; exact .exc
  | dw n => exact OwnTd.shared hs ho h hA
  | sh => exact h.1.mono ss
  | ow =>
    obtain ⟨p, vs, ds, rfl, rfl, e3, e4, e5, e6⟩ := h
    exact Rep.lstL (by rw [take_in (hA p (by rw [e3]; exact List.mem_cons_self))]; exact e5) (e6.mono ss)
  | ow2 =>
    obtain ⟨p, ps, dss, rfl, rfl, e3, e4, e5, e6, e7⟩ := h
    refine Rep.lstL (vs := ps.map V.ref) (by rw [take_in (hA p (by rw [e3]; exact List.mem_cons_self))]; exact e5) ⟨by rw [List.length_map, List.length_map, e6], fun i v d a b => ?_⟩
    rw [List.getElem?_map] at a b
    cases ea : ps[i]? with
    | none => rw [ea] at a; cases a
    | some q =>
      cases eb : dss[i]? with
      | none => rw [eb] at b; cases b
      | some ds =>
        rw [ea] at a; rw [eb] at b
        cases a; cases b
        obtain ⟨z1, vs, z2, z3⟩ := e7 i q ds ea eb
        exact Rep.lstL (by rw [take_in (hA q (by rw [e3]; exact List.mem_cons_of_mem _ (List.mem_of_getElem? ea)))]; exact z2) (z3.mono ss)
  | dk =>
    obtain ⟨p, kvs, ds, rfl, rfl, e3, e4, e5, e6⟩ := h
    have e6' := e6.mono ss
    refine Rep.dic (.inl (by rw [take_in (hA p (by rw [e3]; exact List.mem_cons_self))]; exact e5)) (by have := e6.len; rw [List.length_map] at this; exact this) fun i q d a b => ?_
    exact e6'.at_ i q.2 d (by rw [List.getElem?_map, a]; rfl) b
  | dt =>
    obtain ⟨p, kvs, ds, rfl, rfl, e3, e4, e5, e6⟩ := h
    have e6' := e6.mono ss
    refine Rep.dit (by rw [take_in (hA p (by rw [e3]; exact List.mem_cons_self))]; exact e5) (by have := e6.len; rw [List.length_map] at this; exact this) fun i q d a b => ?_
    exact e6'.at_ i q.2 d (by rw [List.getElem?_map, a]; rfl) b
  | ob p =>
    obtain ⟨dx, C, c, fs, ds, rfl, rfl, e3, e4, e5, e6, e7, e8, e9⟩ := h
    have e9' := e9.mono ss
    refine Rep.obj (by rw [take_in (hA p (by rw [e3]; exact List.mem_cons_self))]; exact e7) e6 (by have := e9.len; rw [List.length_map] at this; exact this) fun i q d a b => ?_
    exact e9'.at_ i q.2 d (by rw [List.getElem?_map, a]; rfl) b
/-- an owner whose addresses are not taken stays -/
theorem OwnAt.stays {A : Addr → Prop} {fp : List Addr} {v : V} {d : D} {md : Md} (h : OwnAt K mg S H fp v d md) (hs : Same S H) (ho : ∀ a, A a → S a = none) (hA : ∀ a, a ∈ fp → ¬ A a) : OwnAt K mg (take S H A) H fp v d md := by
  have ss := take_same (A := A) hs ho
  cases md with
  | owq q0 =>
    obtain ⟨e0, p, vs, ds, e1, e2, e3, e4, e5, e6⟩ := h
    exact ⟨e0, p, vs, ds, e1, e2, e3, by rw [take_out (hA p (by rw [e3]; exact List.mem_cons_self))]; exact e4, e5, e6.mono ss⟩
  | tr n b at_ =>
    cases b with
    | none => exact ⟨h.1, h.2.stays hs ho hA⟩
    | some kq => exact ⟨h.1, h.2.stays hs ho hA⟩
  | ex a0 b0 c0 =>
    obtain ⟨c, vfs, ds, e1, e2, e3, e4, e5, e6⟩ := h
    refine ⟨c, vfs, ds, e1, e2, e3, e4, e5.imp id fun ⟨dx, y1, y2⟩ => ⟨dx, y1, ss _ _ y2⟩, e6.mono (ss)⟩
  | dw n => exact OwnTd.stays hs ho h hA
  | sh => exact ⟨h.1.mono ss, h.2⟩
  | ow =>
    obtain ⟨p, vs, ds, e1, e2, e3, e4, e5, e6⟩ := h
    exact ⟨p, vs, ds, e1, e2, e3, by rw [take_out (hA p (by rw [e3]; exact List.mem_cons_self))]; exact e4, e5, e6.mono ss⟩
  | ow2 =>
    obtain ⟨p, ps, dss, e1, e2, e3, e4, e5, e6, e7⟩ := h
    refine ⟨p, ps, dss, e1, e2, e3, by rw [take_out (hA p (by rw [e3]; exact List.mem_cons_self))]; exact e4, e5, e6, fun j q ds x y => ?_⟩
    obtain ⟨z1, vs, z2, z3⟩ := e7 j q ds x y
    exact ⟨by rw [take_out (hA q (by rw [e3]; exact List.mem_cons_of_mem _ (List.mem_of_getElem? x)))]; exact z1, vs, z2, z3.mono ss⟩
  | dk =>
    obtain ⟨p, vs, ds, e1, e2, e3, e4, e5, e6⟩ := h
    exact ⟨p, vs, ds, e1, e2, e3, by rw [take_out (hA p (by rw [e3]; exact List.mem_cons_self))]; exact e4, e5, e6.mono ss⟩
  | dt =>
    obtain ⟨p, vs, ds, e1, e2, e3, e4, e5, e6⟩ := h
    exact ⟨p, vs, ds, e1, e2, e3, by rw [take_out (hA p (by rw [e3]; exact List.mem_cons_self))]; exact e4, e5, e6.mono ss⟩
  | ob p =>
    obtain ⟨dx, C, c, fs, ds, e1, e2, e3, e4, e5, e6, e7, e8, e9⟩ := h
    exact ⟨dx, C, c, fs, ds, e1, e2, e3, by rw [take_out (hA p (by rw [e3]; exact List.mem_cons_self))]; exact e4, by rw [take_out (hA dx (by rw [e3]; exact List.mem_cons_of_mem _ List.mem_cons_self))]; exact e5, e6, e7, e8, e9.mono ss⟩
/-- m1 has no more of one's own than m -/
def Weak (m m1 : Mds) : Prop := ∀ i, mdAt m1 i = mdAt m i ∨ mdAt m1 i = .sh
theorem mdAt_rep {n i : Nat} : mdAt (List.replicate n .sh) i = .sh := by
  unfold mdAt
  rw [List.getD_eq_getElem?_getD, List.getElem?_replicate]
  split <;> rfl
theorem weak_sh {m : Mds} (n : Nat) : Weak m (List.replicate n .sh) := fun i => .inr mdAt_rep
theorem Weak.nil (m : Mds) : Weak m [] := fun i => .inr (by unfold mdAt; simp)
theorem Weak.refl (m : Mds) : Weak m m := fun i => .inl rfl
theorem Weak.of : ∀ {m m1 : Mds}, (m.length = m1.length ∧ (m.zip m1).all (fun p => decide (p.2 = p.1) || decide (p.2 = .sh)) = true) → Weak m m1 := by
  intro m m1 h i
  obtain ⟨hl, h⟩ := h
  unfold mdAt
  by_cases hi : i < m.length
  · have hi1 : i < m1.length := by omega
    have := List.all_eq_true.mp h (m[i], m1[i]) (by
      refine List.mem_iff_getElem.mpr ⟨i, by rw [List.length_zip]; omega, ?_⟩
      rw [List.getElem_zip])
    rw [List.getD_eq_getElem?_getD, List.getD_eq_getElem?_getD, List.getElem?_eq_getElem hi, List.getElem?_eq_getElem hi1]
    rcases Bool.or_eq_true_iff.mp this with z | z
    · exact .inl (of_decide_eq_true z)
    · exact .inr (of_decide_eq_true z)
  · refine .inr ?_
    rw [List.getD_eq_getElem?_getD, List.getElem?_eq_none_iff.mpr (by omega)]
    rfl
theorem Weak.cons {x : Md} (w : Weak m m1) : Weak (x :: m) (x :: m1) := fun i => match i with
  | 0 => .inl rfl
  | i + 1 => w i
theorem Weak.consSh {x : Md} (w : Weak m m1) : Weak (x :: m) (.sh :: m1) := fun i => match i with
  | 0 => .inr rfl
  | i + 1 => w i
theorem StF.weakX (w : Weak m m1) (h : StF K mg m S0 H0 S F σ ρ H) : ∃ S' F', StF K mg m1 S0 H0 S' F' σ ρ H ∧ Same S S' ∧ ∀ a, S' a ≠ none → S a ≠ none ∨ ∃ i d, ρ[i]? = some (some d) ∧ a ∈ F i := by
  obtain ⟨st, e, nw⟩ := h
  let A : Addr → Prop := fun a => ∃ i d, ρ[i]? = some (some d) ∧ mdAt m1 i = .sh ∧ a ∈ F i
  have ho : ∀ a, A a → S a = none := fun a ⟨i, d, e1, _, e3⟩ => by
    obtain ⟨v, _, o⟩ := e.at_ i d e1
    exact (o.out e3).1
  let F' : Nat → List Addr := fun i => if mdAt m1 i = .sh then [] else F i
  refine ⟨take S H A, F', ⟨⟨st.hh, st.ss.trans (take_same st.sub ho), take_sub st.sub, fun a x => ?_⟩, ⟨e.len, fun i d e1 => ?_, fun i d e1 => ?_, fun i j d d' hij e1 e2 a ha => ?_⟩, fun i d e1 a ha => ?_⟩, take_same st.sub ho, fun a x => ?_⟩
  · by_cases z : A a
    · obtain ⟨i, d, e1, _, e3⟩ := z
      exact .inr (nw i d e1 a e3)
    · rw [take_out z] at x
      exact st.new a x
  · obtain ⟨v, e2, o⟩ := e.at_ i d e1
    refine ⟨v, e2, ?_⟩
    by_cases hsh : mdAt m1 i = .sh
    · rw [hsh]
      refine ⟨o.shared st.sub ho fun a ha => ⟨i, d, e1, hsh, ha⟩, ?_⟩
      show (if mdAt m1 i = .sh then [] else F i) = []
      rw [if_pos hsh]
    · rcases w i with z | z
      · rw [z]
        have : F' i = F i := if_neg hsh
        rw [this]
        refine o.stays st.sub ho fun a ha ⟨j, d', e1', e3', e4'⟩ => ?_
        by_cases hij : i = j
        · subst hij; exact hsh e3'
        · exact e.apart i j d d' hij e1 e1' a ha e4'
      · exact absurd z hsh
  · show (if mdAt m1 i = .sh then [] else F i).Nodup
    split
    · exact List.nodup_nil
    · exact e.nd i d e1
  · have ha' : a ∈ (if mdAt m1 i = .sh then [] else F i) := ha
    show a ∉ (if mdAt m1 j = .sh then [] else F j)
    split at ha'
    · cases ha'
    · split
      · exact fun z => nomatch z
      · exact e.apart i j d d' hij e1 e2 a ha'
  · have ha' : a ∈ (if mdAt m1 i = .sh then [] else F i) := ha
    split at ha'
    · cases ha'
    · exact nw i d e1 a ha'
  · by_cases z : A a
    · obtain ⟨i, d, e1, _, e3⟩ := z
      exact .inr ⟨i, d, e1, e3⟩
    · rw [take_out z] at x
      exact .inl x
theorem StF.weak (w : Weak m m1) (h : StF K mg m S0 H0 S F σ ρ H) : ∃ S' F', StF K mg m1 S0 H0 S' F' σ ρ H ∧ Same S S' := by
  obtain ⟨S', F', a, b, _⟩ := h.weakX w
  exact ⟨S', F', a, b⟩
theorem StM.weak (w : Weak m m1) (h : StM K mg m S0 H0 σ ρ H) : StM K mg m1 S0 H0 σ ρ H := by
  obtain ⟨S, F, h⟩ := h
  obtain ⟨S', F', h', _⟩ := h.weak w
  exact ⟨S', F', h'⟩
def F_set (F : Nat → List Addr) (i : Nat) (fp : List Addr) : Nat → List Addr := fun j => if j = i then fp else F j
theorem F_at {i : Nat} {fp : List Addr} : F_set F i fp i = fp := if_pos rfl
theorem F_off {i j : Nat} {fp : List Addr} (h : j ≠ i) : F_set F i fp j = F j := if_neg h
theorem mdAt_set {i j : Nat} {md : Md} (hi : i < m.length) : mdAt (m.set i md) j = if j = i then md else mdAt m j := by
  unfold mdAt
  rw [List.getD_eq_getElem?_getD, List.getElem?_set]
  by_cases h : j = i
  · rw [if_pos h.symm, if_pos h, if_pos hi]
    rfl
  · rw [if_neg (fun z => h z.symm), if_neg h, List.getD_eq_getElem?_getD]
theorem StF.set {i : Nat} {d : D} {v : V} {md : Md} {fp : List Addr} (h : StF K mg m S0 H0 S F σ ρ H) (hi : i < m.length) (o : OwnAt K mg S H fp v d md) (hn : fp.Nodup) (hf : ∀ a, a ∈ fp → H0 a = none)
    (hd : ∀ j e, j ≠ i → ρ[j]? = some (some e) → ∀ a, a ∈ F j → a ∉ fp) : StF K mg (m.set i md) S0 H0 S (F_set F i fp) (σ.set i (some v)) (ρ.set i (some d)) H := by
  obtain ⟨st, e, nw⟩ := h
  have key : ∀ j d', (ρ.set i (some d))[j]? = some (some d') → (j = i ∧ d' = d ∧ i < ρ.length) ∨ (j ≠ i ∧ ρ[j]? = some (some d')) := fun j d' ej => by
    by_cases hj : j = i
    · subst hj
      rw [List.getElem?_set, if_pos rfl] at ej
      split at ej
      · rename_i hl
        have : d = d' := by injection ej with z; injection z
        exact .inl ⟨rfl, this.symm, hl⟩
      · cases ej
    · rw [List.getElem?_set_ne (Ne.symm hj)] at ej
      exact .inr ⟨hj, ej⟩
  refine ⟨st, ⟨by rw [List.length_set, List.length_set]; exact e.len, fun j d' ej => ?_, fun j d' ej => ?_, fun j k d1 d2 hjk e1 e2 a ha => ?_⟩, fun j d' ej a ha => ?_⟩
  · rcases key j d' ej with ⟨rfl, rfl, hl⟩ | ⟨hj, ej'⟩
    · refine ⟨v, ?_, ?_⟩
      · rw [List.getElem?_set_self (by rw [← e.len]; exact hl)]
      · rw [mdAt_set hi, if_pos rfl, F_at]
        exact o
    · obtain ⟨w, e1, o1⟩ := e.at_ j d' ej'
      refine ⟨w, by rw [List.getElem?_set_ne (Ne.symm hj)]; exact e1, ?_⟩
      rw [mdAt_set hi, if_neg hj, F_off hj]
      exact o1
  · rcases key j d' ej with ⟨rfl, rfl, hl⟩ | ⟨hj, ej'⟩
    · rw [F_at]; exact hn
    · rw [F_off hj]; exact e.nd j d' ej'
  · rcases key j d1 e1 with ⟨rfl, rfl, hl⟩ | ⟨hj, ej⟩
    · rw [F_at] at ha
      rcases key k d2 e2 with ⟨z, _, _⟩ | ⟨hk, ek⟩
      · exact absurd z.symm hjk
      · rw [F_off hk]
        exact fun z => hd k d2 hk ek a z ha
    · rw [F_off hj] at ha
      rcases key k d2 e2 with ⟨rfl, _, _⟩ | ⟨hk, ek⟩
      · rw [F_at]
        exact hd j d1 hj ej a ha
      · rw [F_off hk]
        exact e.apart j k d1 d2 hjk ej ek a ha
  · rcases key j d' ej with ⟨rfl, rfl, hl⟩ | ⟨hj, ej'⟩
    · rw [F_at] at ha; exact hf a ha
    · rw [F_off hj] at ha; exact nw j d' ej' a ha
/-- a slot is forgotten -/
theorem StF.forget {i : Nat} (h : StF K mg m S0 H0 S F σ ρ H) : StF K mg m S0 H0 S F σ (ρ.set i none) H := by
  obtain ⟨st, e, nw⟩ := h
  have key : ∀ j d', (ρ.set i none)[j]? = some (some d') → ρ[j]? = some (some d') := fun j d' ej => by
    by_cases hj : j = i
    · subst hj
      rw [List.getElem?_set, if_pos rfl] at ej
      split at ej
      · cases ej
      · cases ej
    · rw [List.getElem?_set_ne (Ne.symm hj)] at ej
      exact ej
  exact ⟨st, ⟨by rw [List.length_set]; exact e.len, fun j d' ej => e.at_ j d' (key j d' ej), fun j d' ej => e.nd j d' (key j d' ej), fun j k d1 d2 hjk e1 e2 => e.apart j k d1 d2 hjk (key j d1 e1) (key k d2 e2)⟩, fun j d' ej => nw j d' (key j d' ej)⟩
end
end Da
namespace Da
open PySem PySem.Spec L2
structure JS (X : Cx) (E : WX) (L : Lp) (m m' : Mds) (st : Stmt) (F : FS) : Prop where
  ps : PS X st (tS X.K X.mg E L m m' F)
structure JSs (X : Cx) (E : WX) (L : Lp) (m m' : Mds) (st : List Stmt) (F : FS) : Prop where
  ps : PSs X st (tS X.K X.mg E L m m' F)
def fNext : FS := fun ρ => .ok (.nx ρ)
def fSeq (F G : FS) : FS := fun ρ => match F ρ with
  | .ok (.nx ρ') => G ρ'
  | o => o
def fSet (i : Nat) (f : Env → Res D) : FS := fun ρ => lift (f ρ) ρ fun d => .ok (.nx (ρ.set i (some d)))
def fRet (f : Env → Res D) : FS := fun ρ => lift (f ρ) ρ fun d => .ok (.rt d)
def fRetN : FS := fun _ => .ok (.rt .non)
def fIfS (c : Env → Res Bool) (F G : FS) : FS := fun ρ => lift (c ρ) ρ fun b => if b = true then F ρ else G ρ
def fDrop (f : Env → Res D) : FS := fun ρ => lift (f ρ) ρ fun _ => .ok (.nx ρ)
def fBrk : FS := fun ρ => .ok (.bk ρ)
def fCnt : FS := fun ρ => .ok (.ct ρ)
section
variable {K : PySem.W.Frag} {mg : Str → Option Value} {m m1 m2 : Mds} {S0 H0 S S1 S' H H' H1 : Hp} {σ σ' : L2.St} {ρ : Env} {F : Nat → List Addr} {E : WX} {L : Lp} {Dn : Ends} {α : Type}
/-- an expression in a statement -/
theorem lift_post {r : Res α} {k : α → Res Fl} (h : StF K mg m S0 H0 S F σ ρ H) (p : SPost K mg E L S0 H0 m2 (lift r ρ k) Dn) : PostW K mg (WE E σ) S H r fun a S1 H1 => SPost K mg E L S0 H0 m2 (k a) Dn := by
  cases r with
  | ok a => exact fun S1 H1 s1 => p
  | ex c fs =>
    intro S1 H1 cls dd s1 x
    obtain ⟨S2, F2, h2, ss⟩ := (h.step s1).weak (Weak.nil m)
    refine p σ S2 F2 H1 cls dd h2 ⟨x.1, ?_⟩
    rcases x.2 with z | ⟨a, vfs, e1, e2, e3, e4⟩
    · exact .inl z
    · exact .inr ⟨a, vfs, e1, ss _ _ e2, e3, e4.mono ss⟩
  | er => exact p.elim
theorem StF.stM (h : StF K mg m S0 H0 S F σ ρ H) : StM K mg m S0 H0 σ ρ H := ⟨S, F, h⟩
/-- what is handed out of a pure expression -/
theorem RetOk.of {md : Md} {fp : List Addr} {v : V} {d : D} (st : Step S0 H0 S H) (s : Step S H S1 H1) (o : OwnAt K mg S1 H1 fp v d md) (hn : fp.Nodup) (hf : ∀ a, a ∈ fp → H a = none) : RetOk K mg S0 H0 md d v H1 :=
  ⟨S1, fp, st.trans s, o, hn, fun a ha => st.hh.free (hf a ha)⟩
end
section
variable {X : Cx} {E : WX} {L : Lp} {m m1 m2 m' : Mds} {md : Md} {st : Stmt} {sts rest : List Stmt} {e a b : Expr} {f fa fb : Env → Res D} {c : Expr} {g : Env → Res Bool} {F G : FS} {pos : Pos} {x : Str}
theorem PSsimp {t t' : TS} (h : PSs X sts t) (k : ∀ D σ H, t' D σ H → t D σ H) : PSs X sts t' := ⟨fun pins s σ H D I q => h.run pins s σ H D I (k D σ H q)⟩
theorem PSimp {t t' : TS} (h : PS X st t) (k : ∀ D σ H, t' D σ H → t D σ H) : PS X st t' := ⟨fun pins s σ H D I q => h.run pins s σ H D I (k D σ H q)⟩
theorem js_nil : JSs X E L m m [] fNext := ⟨PSsimp pss_nil fun D σ H h => by
  obtain ⟨S0, H0, ρ, st, p⟩ := h
  exact p σ H st⟩
theorem seq_ok {K : PySem.W.Frag} {mg : Str → Option Value} {D : Ends} {σ : L2.St} {H : Hp} (h : tS K mg E L m m2 (fSeq F G) D σ H) : tSeq (tS K mg E L m m1 F) (tS K mg E L m1 m2 G) D σ H := by
  obtain ⟨S0, H0, ρ, st, p⟩ := h
  refine ⟨S0, H0, ρ, st, ?_⟩
  unfold fSeq at p
  cases h : F ρ with
  | ok o =>
    rw [h] at p
    cases o with
    | nx ρ' => exact fun σ' H' st' => ⟨S0, H0, ρ', st', p⟩
    | rt d => exact p
    | bk ρ' => exact p
    | ct ρ' => exact p
    | xc c fs ρ' => exact p
  | ex c fs => rw [h] at p; exact p
  | er => rw [h] at p; exact p
theorem js_cons (h1 : JS X E L m m1 st F) (h2 : JSs X E L m1 m2 rest G) : JSs X E L m m2 (st :: rest) (fSeq F G) := ⟨PSsimp (pss_cons h1.ps h2.ps) fun D σ H h => seq_ok h⟩
theorem js_one (h1 : JS X E L m m1 st F) : JSs X E L m m1 [st] F := ⟨pss_one h1.ps⟩
theorem js_weak1 (h : JS X E L m1 m2 st F) (w : Weak m m1 := by first | exact Weak.of (by decide) | exact weak_sh _ | (repeat (first | exact Weak.refl _ | exact weak_sh _ | apply Weak.cons | apply Weak.consSh))) : JS X E L m m2 st F := ⟨PSimp h.ps fun D σ H q => by
  obtain ⟨S0, H0, ρ, st, p⟩ := q
  exact ⟨S0, H0, ρ, st.weak w, p⟩⟩
theorem SPost.weak {K : PySem.W.Frag} {mg : Str → Option Value} {S0 H0 : Hp} {o : Res Fl} {Dn : Ends} (w : Weak m1 m2) (p : SPost K mg E L S0 H0 m2 o Dn) : SPost K mg E L S0 H0 m1 o Dn := by
  cases o with
  | ok o =>
    cases o with
    | nx ρ' => exact fun σ' H' st' => p σ' H' (st'.weak w)
    | rt d => exact p
    | bk ρ' => exact p
    | ct ρ' => exact p
    | xc c fs ρ' => exact p
  | ex c fs => exact p
  | er => exact p
/-- .. behind a block -/
theorem js_end (h : JSs X E L m m1 sts F) (w : Weak m1 m2 := by first | exact Weak.of (by decide) | exact weak_sh _ | (repeat (first | exact Weak.refl _ | exact weak_sh _ | apply Weak.cons | apply Weak.consSh))) : JSs X E L m m2 sts F := ⟨PSsimp h.ps fun D σ H q => by
  obtain ⟨S0, H0, ρ, st, p⟩ := q
  exact ⟨S0, H0, ρ, st, p.weak w⟩⟩
theorem js_set (i : Nat) {pos' : Pos} (he : JE X E m md e f) (hN : X.N.Nodup) (hl : i < m.length := by first | decide | simp) (hi : X.N[i]? = some x := by rfl) (hx : Loc X.env.scope x := by first | exact Or.inl rfl | exact Or.inr rfl)
    (hs : swapsWith e (some (.Name x pos')) pos.line X.env = pure false := by rfl) (hf : X.fn x = true ∨ X.env.scope.names.lookup x = some .local := by first | exact .inl rfl | exact .inr rfl) :
    JS X E L m (m.set i md) (.Assign [.Name x pos'] e pos) (fSet i f) := by
  refine ⟨PSimp (ps_set hN hi hx he.pe hs hf) fun D σ H h => ?_⟩
  obtain ⟨S0, H0, ρ, ⟨S, Fp, st⟩, p⟩ := h
  refine ⟨S, ρ, st.envM, (lift_post st p).postM fun d v S1 H1 fp s1 o hn hf k => ?_⟩
  refine k _ _ (StF.stM ((st.step s1).set hl o hn (fun a ha => st.1.hh.free (hf a ha)) fun j e' hj ej a ha z => ?_))
  obtain ⟨w, _, o'⟩ := st.2.1.at_ j e' ej
  obtain ⟨_, u, hu⟩ := o'.out ha
  rw [hf a z] at hu
  cases hu
theorem js_ret (he : JE X E m L.md e f) : JS X E L m m' (.Return (some e) pos) (fRet f) := by
  refine ⟨PSimp (ps_ret he.pe) fun D σ H h => ?_⟩
  obtain ⟨S0, H0, ρ, ⟨S, Fp, st⟩, p⟩ := h
  refine ⟨S, ρ, st.envM, (lift_post st p).postM fun d v S1 H1 fp s1 o hn hf k => ?_⟩
  exact k v H1 (RetOk.of st.1 s1 o hn hf)
/-- an own thing is handed out -/
theorem js_retV (i : Nat) (hmd : mdAt m i = L.md := by rfl) (hN : X.N[i]? = some x := by rfl) (hv : Vis X.env.scope x := by first | exact Or.inl rfl | exact Or.inr (Or.inl rfl) | exact Or.inr (Or.inr rfl)) {p : Pos}
    (hd : (x == ("__debug__" : Str)) = false := by decide) (hcd : (x == ("__classdict__" : Str)) = false := by decide) : JS X E L m m' (.Return (some (.Name x p)) pos) (fRet (fV i)) := by
  refine ⟨PSimp (ps_ret (pe_var hN hv hd hcd)) fun D σ H h => ?_⟩
  obtain ⟨S0, H0, ρ, ⟨S, Fp, st⟩, p⟩ := h
  unfold fRet fV at p
  split at p
  · rename_i d e
    obtain ⟨v, e1, o⟩ := st.2.1.at_ i d e
    rw [hmd] at o
    exact ⟨v, e1, p v H ⟨S, _, st.1, o, st.2.1.nd i d e, st.2.2 i d e⟩⟩
  · exact p.elim
theorem js_if (hc : JT X E m c g) (ha : JSs X E L m m' sts F) (hb : JSs X E L m m' rest G) : JS X E L m m' (.If c sts rest pos) (fIfS g F G) := by
  refine ⟨PSimp (ps_if hc.pt ha.ps hb.ps) fun D σ H h => ?_⟩
  obtain ⟨S0, H0, ρ, ⟨S, Fp, st⟩, p⟩ := h
  refine ⟨S, ρ, st.envM, ?_⟩
  have k := lift_post st p
  cases hg : g ρ with
  | ok bb =>
    rw [hg] at k
    intro S1 H1 s1
    have k1 := k S1 H1 s1
    cases bb with
    | true => exact ⟨S0, H0, ρ, (st.step s1).stM, k1⟩
    | false => exact ⟨S0, H0, ρ, (st.step s1).stM, k1⟩
  | ex c' fs => rw [hg] at k; exact k
  | er => rw [hg] at k; exact k
theorem js_break (w : Weak m L.mb := by first | exact Weak.of (by decide) | exact weak_sh _ | (repeat (first | exact Weak.refl _ | exact weak_sh _ | apply Weak.cons | apply Weak.consSh))) : JS X E L m m' (.Break pos) fBrk := ⟨PSimp ps_break fun D σ H h => by
  obtain ⟨S0, H0, ρ, st, p⟩ := h
  exact p σ H (st.weak w)⟩
theorem set_sh {m : Mds} {i : Nat} (hl : i < m.length) (hmd : mdAt m i = .sh) : m.set i .sh = m := by
  refine List.ext_getElem? fun j => ?_
  rw [List.getElem?_set]
  unfold mdAt at hmd
  rw [List.getD_eq_getElem?_getD, List.getElem?_eq_getElem hl] at hmd
  split
  · rename_i hj
    subst hj
    rw [List.getElem?_eq_getElem hl]
    exact congrArg some hmd.symm
  · rfl
/-- x += e of whole numbers -/
def fAug (i : Nat) (g : D → D → Res D) (f : Env → Res D) : FS := fSet i (f2 g (fV i) f)
def fApp (i : Nat) (f : Env → Res D) : FS := fun ρ => match ρ[i]? with
  | some (some (.lst xs)) => lift (f ρ) ρ fun d => if szOk (xs.length + 1) = true then .ok (.nx (ρ.set i (some (.lst (xs ++ [d]))))) else .er
  | _ => .er
theorem szOk_lt {n : Nat} (h : szOk (n + 1) = true) : n < sizeLine := by
  have := szOk_le h
  rw [sizeLine_eq]; omega
/-- an own list, at a known place or not -/
def IsOw (md : Md) : Prop := md = .ow ∨ ∃ q, md = .owq q
/-- the list of slot i is written -/
theorem StF.write {K : PySem.W.Frag} {mg : Str → Option Value} {S0 H0 S H : Hp} {Fp : Nat → List Addr} {σ : L2.St} {ρ : Env} {i : Nat} {xs ys : List D} {vs ws : List V} {p : Addr} (st : StF K mg m S0 H0 S Fp σ ρ H) (hl : i < m.length) (hmd : IsOw (mdAt m i)) (hρ : ρ[i]? = some (some (.lst xs)))
    (hp : Fp i = [p]) (hσ : σ[i]? = some (some (.ref p))) (sp : S p = none) (hv : H p = some (.lst vs)) (r : RepL K mg S ws ys) : StF K mg m S0 H0 S Fp σ (ρ.set i (some (.lst ys))) (upd H p (.lst ws)) := by
  obtain ⟨s, e, nw⟩ := st
  have hil : i < ρ.length := (List.getElem?_eq_some_iff.mp hρ).1
  have h0 : H0 p = none := nw i _ hρ p (by rw [hp]; exact List.mem_cons_self)
  have key : ∀ j d', (ρ.set i (some (.lst ys)))[j]? = some (some d') → (j = i ∧ d' = .lst ys) ∨ (j ≠ i ∧ ρ[j]? = some (some d')) := fun j d' ej => by
    by_cases hj : j = i
    · subst hj
      rw [List.getElem?_set_self hil] at ej
      injection ej with z; injection z with z
      exact .inl ⟨rfl, z.symm⟩
    · rw [List.getElem?_set_ne (Ne.symm hj)] at ej
      exact .inr ⟨hj, ej⟩
  have same : ∀ {B : Hp}, Same B H → B p = none → Same B (upd H p (.lst ws)) := fun hB hb a o ea => by
    rw [upd_ne (ne_of_none ea hb)]
    exact hB a o ea
  have pres : ∀ {d}, ρ[i]? = some (some d) ↔ d = .lst xs := fun {d} => by
    rw [hρ]
    constructor
    · intro z; injection z with z; injection z with z; exact z.symm
    · intro z; rw [z]
  refine ⟨⟨same s.hh h0, s.ss, same s.sub sp, s.new⟩, ⟨by rw [List.length_set]; exact e.len, fun j d' ej => ?_, fun j d' ej => ?_, fun j k d1 d2 hjk e1 e2 => ?_⟩, fun j d' ej => ?_⟩
  · rcases key j d' ej with ⟨rfl, rfl⟩ | ⟨hj, ej'⟩
    · refine ⟨_, hσ, ?_⟩
      rcases hmd with hmd | ⟨q, hmd⟩
      · rw [hmd]
        exact ⟨p, ws, ys, rfl, rfl, hp, sp, upd_same, r⟩
      · obtain ⟨w, e1, o1⟩ := e.at_ j _ hρ
        rw [hmd] at o1 ⊢
        rw [hσ] at e1
        cases e1
        exact ⟨o1.1, p, ws, ys, rfl, rfl, hp, sp, upd_same, r⟩
    · obtain ⟨w, e1, o1⟩ := e.at_ j d' ej'
      exact ⟨w, e1, o1.other sp fun z => e.apart i j _ d' (Ne.symm hj) hρ ej' p (by rw [hp]; exact List.mem_cons_self) z⟩
  · rcases key j d' ej with ⟨rfl, rfl⟩ | ⟨hj, ej'⟩
    · exact e.nd _ _ hρ
    · exact e.nd j d' ej'
  · have live : ∀ j d', (ρ.set i (some (.lst ys)))[j]? = some (some d') → ∃ d'', ρ[j]? = some (some d'') := fun j d' ej => by
      rcases key j d' ej with ⟨rfl, _⟩ | ⟨_, ej'⟩
      · exact ⟨_, hρ⟩
      · exact ⟨_, ej'⟩
    obtain ⟨d1', h1⟩ := live j d1 e1
    obtain ⟨d2', h2⟩ := live k d2 e2
    exact e.apart j k d1' d2' hjk h1 h2
  · rcases key j d' ej with ⟨rfl, rfl⟩ | ⟨hj, ej'⟩
    · exact nw _ _ hρ
    · exact nw j d' ej'
/-- what is known of an own list -/
theorem StF.own {K : PySem.W.Frag} {mg : Str → Option Value} {S0 H0 S H : Hp} {Fp : Nat → List Addr} {σ : L2.St} {ρ : Env} {i : Nat} {d : D} (st : StF K mg m S0 H0 S Fp σ ρ H) (hmd : IsOw (mdAt m i)) (hρ : ρ[i]? = some (some d)) :
    ∃ p vs ds, d = .lst ds ∧ Fp i = [p] ∧ σ[i]? = some (some (.ref p)) ∧ S p = none ∧ H p = some (.lst vs) ∧ RepL K mg S vs ds := by
  obtain ⟨v, e1, o⟩ := st.2.1.at_ i d hρ
  rcases hmd with hmd | ⟨q, hmd⟩
  · rw [hmd] at o
    obtain ⟨p, vs, ds, rfl, rfl, e3, e4, e5, e6⟩ := o
    exact ⟨p, vs, ds, rfl, e3, e1, e4, e5, e6⟩
  · rw [hmd] at o
    obtain ⟨e0, p, vs, ds, rfl, rfl, e3, e4, e5, e6⟩ := o
    exact ⟨p, vs, ds, rfl, e3, e1, e4, e5, e6⟩
theorem js_app (i : Nat) {p1 p2 p3 : Pos} (he : JE X E m .sh e f) (hmd : IsOw (mdAt m i) := by first | exact .inl rfl | exact .inr ⟨_, rfl⟩) (hl : i < m.length := by first | decide | simp) (hN : X.N[i]? = some x := by rfl) (hv : Vis X.env.scope x := by first | exact Or.inl rfl | exact Or.inr (Or.inl rfl) | exact Or.inr (Or.inr rfl))
    (hd : (x == ("__debug__" : Str)) = false := by decide) (hcd : (x == ("__classdict__" : Str)) = false := by decide)
    (hs : swapsWith (.Call (.Attribute (.Name x p1) "append" p2) [e] [] p3) none pos.line X.env = pure false := by rfl)
    (hpe : ∀ {to te : TE}, PE X (.Name x p1) to → PE X e te → PE X (.Call (.Attribute (.Name x p1) "append" p2) [e] [] p3) (tBM X.K "list" rAppend to (tCons te tNil)) := by
      intro to te ho he
      exact pe_bm PySem.F.plainAttrs_list PySem.F.slot_list_append PySem.F.type_list_append mt_append ho (pa_cons he pa_nil)) :
    JS X E L m m (.Expr (.Call (.Attribute (.Name x p1) "append" p2) [e] [] p3) pos) (fApp i f) := by
  refine ⟨PSimp (ps_expr (hpe (pe_var hN hv hd hcd) he.pe) hs) fun D σ H h => ?_⟩
  obtain ⟨S0, H0, ρ, ⟨S, Fp, st⟩, p⟩ := h
  unfold fApp at p
  split at p
  · rename_i xs exs
    obtain ⟨pa, vs, ds, eds, e1, e2, e3, e4, e5⟩ := st.own hmd exs
    cases eds
    refine ⟨_, e2, .inl ⟨rfl, vs, .inl (.inl e4)⟩, S, ρ, st.envM, (lift_post st p).post fun d v S1 H1 s1 r k => ?_⟩
    split at k
    · rename_i hz
      obtain ⟨qa, vs1, ds1, eds, q1, q2, q3, q4, q5⟩ := (st.step s1).own hmd exs
      cases eds
      obtain rfl : qa = pa := by
        rw [e2] at q2
        injection q2 with z; injection z with z; injection z with z
        exact z.symm
      refine ⟨qa, vs1, v, rfl, rfl, q4, by rw [q5.len]; exact szOk_lt hz, ?_⟩
      exact k _ _ ((st.step s1).write hl hmd exs q1 q2 q3 q4 (q5.snoc r)).stM
    · exact k.elim
  · exact p.elim
/-- x[j] = e of an own list -/
def fSetIx (i : Nat) (fe fj : Env → Res D) : FS := fun ρ => match ρ[i]? with
  | some (some (.lst xs)) => lift (fe ρ) ρ fun d => lift (fj ρ) ρ fun j => match j with
    | .int z => (match ixN xs.length z with
      | some k => .ok (.nx (ρ.set i (some (.lst (xs.set k d)))))
      | none => .er)
    | _ => .er
  | _ => .er
theorem js_setix (i : Nat) {p1 p2 : Pos} {j : Expr} {fj : Env → Res D} (he : JE X E m .sh e f) (hj : JE X E m .sh j fj) (hmd : IsOw (mdAt m i) := by first | exact .inl rfl | exact .inr ⟨_, rfl⟩) (hl : i < m.length := by first | decide | simp) (hN : X.N[i]? = some x := by rfl) (hv : Vis X.env.scope x := by first | exact Or.inl rfl | exact Or.inr (Or.inl rfl) | exact Or.inr (Or.inr rfl))
    (hd : (x == ("__debug__" : Str)) = false := by decide) (hcd : (x == ("__classdict__" : Str)) = false := by decide)
    (hps : ∀ {to ti te : TE}, PE X (.Name x p1) to → PE X j ti → PE X e te → PS X (.Assign [.Subscript (.Name x p1) j p2] e pos) (tAsg te (gSub to ti rSetL)) := by
      intro to ti te ho hi he
      exact ps_asg he (pg_sub ho hi set_list)) :
    JS X E L m m (.Assign [.Subscript (.Name x p1) j p2] e pos) (fSetIx i f fj) := by
  refine ⟨PSimp (hps (pe_var hN hv hd hcd) hj.pe he.pe) fun D σ H h => ?_⟩
  obtain ⟨S0, H0, ρ, ⟨S, Fp, st⟩, p⟩ := h
  unfold fSetIx at p
  split at p
  · rename_i xs exs
    obtain ⟨pa, vs, ds, eds, e1, e2, e3, e4, e5⟩ := st.own hmd exs
    refine ⟨S, ρ, st.envM, (lift_post st p).post fun d v S1 H1 s1 r k => ⟨_, e2, S1, ρ, (st.step s1).envM, (lift_post (st.step s1) k).post fun dj vj S2 H2 s2 rj k2 => ?_⟩⟩
    cases dj with
    | int z =>
      cases rj
      have k2 : SPost X.K X.mg E L S0 H0 m (match ixN xs.length z with
        | some k => .ok (.nx (ρ.set i (some (.lst (xs.set k d)))))
        | none => .er) D := k2
      split at k2
      · rename_i kk ek
        obtain ⟨qa, vs1, ds1, eds1, q1, q2, q3, q4, q5⟩ := ((st.step s1).step s2).own hmd exs
        cases eds1
        obtain rfl : qa = pa := by
          rw [e2] at q2
          injection q2 with z; injection z with z; injection z with z
          exact z.symm
        exact ⟨qa, vs1, z, kk, rfl, rfl, q4, by rw [q5.len]; exact ek, k2 _ _ (((st.step s1).step s2).write hl hmd exs q1 q2 q3 q4 (q5.set kk (r.mono s2.ss))).stM⟩
      · exact k2.elim
    | _ => exact k2.elim
  · exact p.elim
end
end Da
namespace Da
open PySem PySem.Spec L2
/-- the loop over the items -/
def forGo (g : D → Env → Res Env) (F : FS) : List D → FS
  | [], ρ => .ok (.nx ρ)
  | x :: xs, ρ => match g x ρ with
    | .ok ρ1 => (match F ρ1 with
      | .ok (.nx ρ2) => forGo g F xs ρ2
      | .ok (.ct ρ2) => forGo g F xs ρ2
      | .ok (.bk ρ2) => .ok (.nx ρ2)
      | o => o)
    | _ => .er
def fFor (it : Env → Res (List D)) (g : D → Env → Res Env) (F : FS) : FS := fun ρ => lift (it ρ) ρ fun xs => forGo g F xs ρ
/-- the iterator J gives the items ds, from the view S on -/
structure WalkD (K : PySem.W.Frag) (mg : Str → Option Value) (J : It) (S : Hp) (ds : List D) : Prop where
  go : ∀ i d S1 H1, ds[i]? = some d → Same S S1 → Same S1 H1 → J.go i H1 ∧ ∀ x H2, J.yld i H1 x H2 → ∃ S2, Step S1 H1 S2 H2 ∧ Rep K mg S2 x d
  stop : ∀ S1 H1, Same S S1 → Same S1 H1 → J.stop ds.length H1
def tI (K : PySem.W.Frag) (mg : Str → Option Value) (E : WX) (m : Mds) (f : Env → Res (List D)) : TI := fun σ H R => ∃ S ρ, EnvM K mg m S H σ ρ ∧ PostW K mg (WE E σ) S H (f ρ) fun ds S' H' => ∀ J, WalkD K mg J S' ds → R J H'
structure JI (X : Cx) (E : WX) (m : Mds) (tg iter : Expr) (f : Env → Res (List D)) : Prop where
  pi : PI X tg iter (tI X.K X.mg E m f)
/-- a target takes a value -/
def tGD (K : PySem.W.Frag) (mg : Str → Option Value) (m : Mds) (ts : List Nat) (g : D → Env → Res Env) : TG := fun v σ H Q => ∃ S0 H0 S F ρ d, StF K mg m S0 H0 S F σ ρ H ∧ Rep K mg S v d ∧ (match g d ρ with
  | .ok ρ1 => ∀ σ1 S1 F1 H1, StF K mg m S0 H0 S1 F1 σ1 ρ1 H1 → Step S H S1 H1 → (σ1.length = σ.length ∧ ∀ j, j ∉ ts → σ1[j]? = σ[j]?) → Q σ1 H1
  | _ => False)
structure JG (X : Cx) (m : Mds) (ts : List Nat) (tg : Expr) (g : D → Env → Res Env) : Prop where
  pg : PG X tg (tGD X.K X.mg m ts g)
section
variable {X : Cx} {E : WX} {L : Lp} {m m1 m2 m' : Mds} {md : Md} {st : Stmt} {sts rest : List Stmt} {e a b tg iter : Expr} {f fa fb : Env → Res D} {c : Expr} {g : Env → Res Bool} {F G : FS} {pos : Pos} {x : Str} {it : Env → Res (List D)} {gt : D → Env → Res Env}
/-- a name: what it holds is shared -/
def gN (i : Nat) : D → Env → Res Env := fun d ρ => .ok (ρ.set i (some d))
theorem jg_name (i : Nat) (hN : X.N.Nodup) (hmd : mdAt m i = .sh := by rfl) (hl : i < m.length := by first | decide | simp) (hi : X.N[i]? = some x := by rfl) (hx : Loc X.env.scope x := by first | exact Or.inl rfl | exact Or.inr rfl)
    (hf : X.fn x = true ∨ X.env.scope.names.lookup x = some .local := by first | exact .inl rfl | exact .inr rfl) : JG X m [i] (.Name x pos) (gN i) := by
  refine ⟨⟨fun pins s σ H v u Q I r h => ?_⟩⟩
  refine (pg_name hN hi hx hf).run pins s σ H v u Q I r ?_
  obtain ⟨S0, H0, S, Fp, ρ, d, st, rd, p⟩ := h
  have st1 := st.set (d := d) (v := v) (md := .sh) (fp := []) hl ⟨rd, rfl⟩ List.nodup_nil (fun a z => nomatch z) (fun j e' hj ej a ha z => nomatch z)
  rw [set_sh hl hmd] at st1
  exact p _ S _ H st1 (Step.refl st.1.sub) ⟨List.length_set, fun j hj => List.getElem?_set_ne fun z => hj (by rw [z]; exact List.mem_cons_self)⟩
theorem js_for (hi : JI X E m tg iter it) {ts : List Nat} (hg : JG X m ts tg gt) (hb : JSs X E ⟨m, m, L.md⟩ m m sts F) (hp : PassesOwn (model X.prog X.w) X.A X.env X.xe) (hc : X.calm = true := by rfl)
    (hs : ∀ x, foldedSetIterable iter X.env x = pure x := by intro _; rfl) : JS X E L m m (.For tg iter sts [] pos) (fFor it gt F) := by
  refine ⟨PSimp (ps_for hp hc hi.pi hg.pg hb.ps hs) fun D σ H h => ?_⟩
  obtain ⟨S0, H0, ρ, ⟨S, Fp, st⟩, p⟩ := h
  refine ⟨S, ρ, st.envM, (lift_post st p).imp fun ds S1 H1 s1 k J w => ?_⟩
  -- from here on the entry is (S1, H0)
  have st1 := st.step s1
  refine ⟨fun i n σ H => n = ds.length - i ∧ i ≤ ds.length ∧ ∃ S2 F2 ρ2, StF X.K X.mg m S1 H0 S2 F2 σ ρ2 H ∧ SPost X.K X.mg E L S0 H0 m (forGo gt F (ds.drop i) ρ2) D, ⟨ds.length, by simp, Nat.zero_le _, S1, Fp, ρ, ⟨st1.1.fwd, st1.2⟩, k⟩, ?_⟩
  rintro i n σ2 H2 ⟨rfl, hi, S2, F2, ρ2, st2, p2⟩
  by_cases hlt : i < ds.length
  · obtain ⟨hgo, hyl⟩ := w.go i ds[i] S2 H2 (List.getElem?_eq_getElem hlt) st2.1.ss st2.1.sub
    refine .inr ⟨hgo, fun σ' H' => ∃ S3 F3 ρ3, StF X.K X.mg m S1 H0 S3 F3 σ' ρ3 H' ∧ SPost X.K X.mg E L S0 H0 m (forGo gt F (ds.drop (i + 1)) ρ3) D, fun σ' H' z => ⟨ds.length - (i + 1), by omega, rfl, hlt, z⟩, fun x H3 y => ?_⟩
    obtain ⟨S3, s3, r3⟩ := hyl x H3 y
    refine ⟨S1, H0, S3, F2, ρ2, ds[i], st2.step s3, r3, ?_⟩
    rw [List.drop_eq_getElem_cons hlt] at p2
    unfold forGo at p2
    cases eg : gt ds[i] ρ2 with
    | ok ρ3 =>
      rw [eg] at p2
      refine fun σ4 S4 F4 H4 st4 s4 _ => ⟨S1, H0, ρ3, st4.stM, ?_⟩
      have p3 : SPost X.K X.mg E L S0 H0 m (match F ρ3 with
        | .ok (.nx ρ2) => forGo gt F (ds.drop (i + 1)) ρ2
        | .ok (.ct ρ2) => forGo gt F (ds.drop (i + 1)) ρ2
        | .ok (.bk ρ2) => .ok (.nx ρ2)
        | o => o) D := p2
      cases ef : F ρ3 with
      | ok o =>
        rw [ef] at p3
        cases o with
        | nx ρ5 => exact fun σ5 H5 ⟨S5, F5, st5⟩ => ⟨S5, F5, ρ5, st5, p3⟩
        | ct ρ5 => exact fun σ5 H5 ⟨S5, F5, st5⟩ => ⟨S5, F5, ρ5, st5, p3⟩
        | bk ρ5 => exact fun σ5 H5 ⟨S5, F5, st5⟩ => p3 σ5 H5 ⟨S5, F5, st1.1.back st5.1, st5.2⟩
        | rt d => exact fun v H5 ⟨S5, fp, s5, o5⟩ => p3 v H5 ⟨S5, fp, st1.1.back s5, o5⟩
        | xc c' fs ρ5 => exact fun σ5 S5 F5 H5 cls dd st5 x5 => p3 σ5 S5 F5 H5 cls dd ⟨st1.1.back st5.1, st5.2⟩ x5
      | ex c' fs => rw [ef] at p3; exact p3
      | er => rw [ef] at p3; exact p3
    | ex c' fs => rw [eg] at p2; exact p2
    | er => rw [eg] at p2; exact p2
  · have e : i = ds.length := by omega
    subst e
    rw [List.drop_length] at p2
    exact .inl ⟨w.stop S2 H2 st2.1.ss st2.1.sub, p2 σ2 H2 ⟨S2, F2, st1.1.back st2.1, st2.2⟩⟩
def asL : D → Res (List D)
  | .lst xs => .ok xs
  | .frl xs => .ok xs
  | .tup xs => .ok xs
  | _ => .er
theorem walk_l {K : PySem.W.Frag} {mg : Str → Option Value} {S : Hp} {a : Addr} {vs : List V} {ds : List D} (h : SqL K S a vs) (r : RepL K mg S vs ds) : WalkD K mg (Itl K a) S ds where
  go := fun i d S1 H1 e s1 s2 => by
    obtain ⟨v, ev, rv⟩ := r.get e
    refine ⟨⟨vs, v, same_l s2 (same_l s1 h), ev⟩, fun x H2 ⟨e2, y⟩ => ?_⟩
    subst e2
    have := y vs (same_l s2 (same_l s1 h))
    rw [ev] at this
    cases this
    exact ⟨S1, Step.refl s2, rv.mono s1⟩
  stop := fun S1 H1 s1 s2 => ⟨vs, same_l s2 (same_l s1 h), Nat.le_of_eq r.len⟩
theorem walk_t {K : PySem.W.Frag} {mg : Str → Option Value} {S : Hp} {a : Addr} {vs : List V} {ds : List D} (h : SqT K S a vs) (r : RepL K mg S vs ds) : WalkD K mg (Itt K a) S ds where
  go := fun i d S1 H1 e s1 s2 => by
    obtain ⟨v, ev, rv⟩ := r.get e
    refine ⟨⟨vs, v, same_t s2 (same_t s1 h), ev⟩, fun x H2 ⟨e2, y⟩ => ?_⟩
    subst e2
    have := y vs (same_t s2 (same_t s1 h))
    rw [ev] at this
    cases this
    exact ⟨S1, Step.refl s2, rv.mono s1⟩
  stop := fun S1 H1 s1 s2 => ⟨vs, same_t s2 (same_t s1 h), Nat.le_of_eq r.len⟩
def iSeq (K : PySem.W.Frag) (tl : TE) : TI := fun σ H R => tl σ H fun x H1 => ∃ a, x = .ref a ∧ ((∃ xs, SqL K H1 a xs) ∧ R (Itl K a) H1 ∨ (∃ xs, SqT K H1 a xs) ∧ R (Itt K a) H1)
theorem pi_seq {l : Expr} {tl : TE} (hl : PE X l tl) : PI X tg l (iSeq X.K tl) := by
  refine ⟨fun pins s σ H R I h => thn (hl.run pins s σ H _ I h) fun v s1 hv => ?_⟩
  obtain ⟨y, Hy, Iy, ry, a, rfl, q⟩ := hv
  cases ry
  have fresh : ∀ b, b ∈ [s1.heap.objs.size] → FpOk X pins Hy b := fun b hb => by
    rw [List.mem_singleton.mp hb]
    exact Iy.fpOk (Nat.le_refl _) (Iy.hok.fresh (Nat.le_refl _))
  rcases q with ⟨⟨xs, hq⟩, q⟩ | ⟨⟨xs, hq⟩, q⟩
  · obtain ⟨its, _, pl, _⟩ := Iy.list hq
    refine wpAny_pyIter_list pl.isList ⟨_, [_], _, Itl X.K a, Hy, rfl, ?_, turn_list a _, ?_, fresh, q⟩
    · exact Iy.kept (t' := s1.toks) fun b o e => Heap.get?_push_of_some _ e
    · exact ⟨_, Heap.get?_push_size _ rfl, rfl, rfl⟩
  · obtain ⟨its, _, pl, _⟩ := Iy.tuple hq
    refine wpAny_pyIter_tuple (show s1.heap.IsTuple a its.toArray from pl) ⟨_, [_], _, Itt X.K a, Hy, rfl, ?_, turn_tuple a _, ?_, fresh, q⟩
    · exact Iy.kept (t' := s1.toks) fun b o e => Heap.get?_push_of_some _ e
    · exact ⟨_, Heap.get?_push_size _ rfl, rfl, rfl⟩
def fL (f : Env → Res D) : Env → Res (List D) := fun ρ => (f ρ).bind asL
theorem ji_seq (he : JE X E m .sh e f) : JI X E m tg e (fL f) := by
  refine ⟨⟨fun pins s σ H R I h => (pi_seq he.pe).run pins s σ H R I ?_⟩⟩
  obtain ⟨S, ρ, hm, hp⟩ := h
  refine ⟨S, ρ, hm, (PostW.bind hp).post fun d v S1 H1 s1 r k => ?_⟩
  cases d with
  | lst xs =>
    obtain ⟨a, vs, rfl, ha, rv⟩ := r.of_lst
    exact ⟨a, rfl, .inl ⟨⟨vs, .inl (.inl (s1.sub _ _ ha))⟩, k S1 H1 (Step.refl s1.sub) _ (walk_l (.inl (.inl ha)) rv)⟩⟩
  | frl xs =>
    obtain ⟨a, vs, rfl, ha, rv⟩ := r.of_frl
    exact ⟨a, rfl, .inl ⟨⟨vs, same_l s1.sub ha⟩, k S1 H1 (Step.refl s1.sub) _ (walk_l ha rv)⟩⟩
  | tup xs =>
    obtain ⟨a, vs, rfl, ha, rv⟩ := r.of_tup
    exact ⟨a, rfl, .inr ⟨⟨vs, same_t s1.sub ha⟩, k S1 H1 (Step.refl s1.sub) _ (walk_t ha rv)⟩⟩
  | _ => exact k.elim
def rng (lo : Int) (n : Nat) : List D := (List.range n).map fun (i : Nat) => D.int (lo + i)
theorem walk_r {K : PySem.W.Frag} {mg : Str → Option Value} {S : Hp} (lo : Int) (n : Nat) : WalkD K mg (Itr lo n) S (rng lo n) where
  go := fun i d S1 H1 e s1 s2 => by
    unfold rng at e
    rw [List.getElem?_map] at e
    have hi : i < n := by
      cases q : (List.range n)[i]? with
      | none => rw [q] at e; cases e
      | some j =>
        have := (List.getElem?_eq_some_iff.mp q).1
        rwa [List.length_range] at this
    rw [List.getElem?_range hi] at e
    cases e
    exact ⟨hi, fun x H2 ⟨e2, y⟩ => by subst e2 y; exact ⟨S1, Step.refl s2, .int _⟩⟩
  stop := fun S1 H1 s1 s2 => by
    show n ≤ (rng lo n).length
    unfold rng
    rw [List.length_map, List.length_range]
    exact Nat.le_refl _
def rngOk (i j : Int) : Bool := stuck (-(4611686018427387904) ≤ i ∧ i < 4611686018427387904 ∧ -(4611686018427387904) ≤ j ∧ j < 4611686018427387904)
theorem rngOk_ok {i j : Int} (h : rngOk i j = true) : -(2 ^ 62) ≤ i ∧ i < 2 ^ 62 ∧ -(2 ^ 62) ≤ j ∧ j < 2 ^ 62 := by
  obtain ⟨h1, h2, h3, h4⟩ := stuck_iff.mp h
  have e : (2 : Int) ^ 62 = 4611686018427387904 := by decide
  rw [e]
  exact ⟨h1, h2, h3, h4⟩
def gRng1 : List D → Res (List D)
  | [.int j] => if rngOk 0 j = true then .ok (rng 0 j.toNat) else .er
  | _ => .er
def gRng2 : List D → Res (List D)
  | [.int i, .int j] => if rngOk i j = true then .ok (rng i (j - i).toNat) else .er
  | _ => .er
theorem gRng1_ok {ds xs : List D} (h : gRng1 ds = .ok xs) : ∃ j, ds = [.int j] ∧ rngOk 0 j = true ∧ xs = rng 0 j.toNat := by
  unfold gRng1 at h
  split at h
  · rename_i j
    split at h
    · rename_i hk
      injection h with h
      exact ⟨j, rfl, hk, h.symm⟩
    · cases h
  · cases h
theorem gRng2_ok {ds xs : List D} (h : gRng2 ds = .ok xs) : ∃ i j, ds = [.int i, .int j] ∧ rngOk i j = true ∧ xs = rng i (j - i).toNat := by
  unfold gRng2 at h
  split at h
  · rename_i i j
    split at h
    · rename_i hk
      injection h with h
      exact ⟨i, j, rfl, hk, h.symm⟩
    · cases h
  · cases h
theorem gRng1_ex {ds : List D} {c : Str} {fs : List (Str × D)} : gRng1 ds ≠ .ex c fs := by
  unfold gRng1
  split
  · split <;> exact fun z => nomatch z
  · exact fun z => nomatch z
theorem gRng2_ex {ds : List D} {c : Str} {fs : List (Str × D)} : gRng2 ds ≠ .ex c fs := by
  unfold gRng2
  split
  · split <;> exact fun z => nomatch z
  · exact fun z => nomatch z
def fR1 (fs : Env → Res (List D)) : Env → Res (List D) := fun ρ => (fs ρ).bind gRng1
def fR2 (fs : Env → Res (List D)) : Env → Res (List D) := fun ρ => (fs ρ).bind gRng2
theorem PostW.of_if {α : Type} {K : PySem.W.Frag} {mg : Str → Option Value} {E : XK} {S H : Hp} {r : Res α} {c : Bool} {k : α → Hp → Hp → Prop} (h : PostW K mg E S H (if c = true then r else .er) k) : c = true ∧ PostW K mg E S H r k := by
  split at h
  · rename_i hc; exact ⟨hc, h⟩
  · exact h.elim
theorem RepL.int1 {K : PySem.W.Frag} {mg : Str → Option Value} {S : Hp} {vs : List V} {j : Int} (r : RepL K mg S vs [.int j]) : vs = [.int j] := RepL.ints (ns := [j]) r
theorem RepL.int2 {K : PySem.W.Frag} {mg : Str → Option Value} {S : Hp} {vs : List V} {i j : Int} (r : RepL K mg S vs [.int i, .int j]) : vs = [.int i, .int j] := RepL.ints (ns := [i, j]) r
theorem PostW.okOf {α : Type} {K : PySem.W.Frag} {mg : Str → Option Value} {E : XK} {S H : Hp} {r : Res α} {k : α → Hp → Hp → Prop} (h : PostW K mg E S H r k) (hx : ∀ c fs, r ≠ .ex c fs) : ∃ a, r = .ok a ∧ ∀ S' H', Step S H S' H' → k a S' H' := by
  cases r with
  | ok a => exact ⟨a, rfl, h⟩
  | ex c fs => exact absurd rfl (hx c fs)
  | er => exact h.elim
theorem ji_range1 {fs : Env → Res (List D)} {p : Pos} (ha : JA X E m [a] fs) (hm : X.mg "range" = none) (hg : Gl X "range" := by rfl) (hs : starEach [a] X.env = [(false, eval a X.env)] := by rfl) : JI X E m tg (.Call (.Name "range" p) [a] [] pos) (fR1 fs) := by
  refine ⟨⟨fun pins s σ H R I h => (pi_range1 hg hm ha.pa hs).run pins s σ H R I ?_⟩⟩
  obtain ⟨S, ρ, hm, hp⟩ := h
  refine ⟨S, ρ, hm, (PostW.bind hp).imp fun ds S1 H1 s1 k vs rv => ?_⟩
  obtain ⟨xs, e, k⟩ := PostW.okOf k fun _ _ => gRng1_ex
  obtain ⟨j, rfl, hk, rfl⟩ := gRng1_ok e
  obtain ⟨_, _, h3, h4⟩ := rngOk_ok hk
  exact ⟨j, rv.int1, h3, h4, k S1 H1 (Step.refl s1.sub) _ (walk_r 0 j.toNat)⟩
theorem ji_range2 {fs : Env → Res (List D)} {p : Pos} (ha : JA X E m [a, b] fs) (hm : X.mg "range" = none) (hg : Gl X "range" := by rfl) (hs : starEach [a, b] X.env = [(false, eval a X.env), (false, eval b X.env)] := by rfl) (hs2 : starEach [b] X.env = [(false, eval b X.env)] := by rfl) :
    JI X E m tg (.Call (.Name "range" p) [a, b] [] pos) (fR2 fs) := by
  refine ⟨⟨fun pins s σ H R I h => (pi_range2 hg hm ha.pa hs hs2).run pins s σ H R I ?_⟩⟩
  obtain ⟨S, ρ, hm, hp⟩ := h
  refine ⟨S, ρ, hm, (PostW.bind hp).imp fun ds S1 H1 s1 k vs rv => ?_⟩
  obtain ⟨xs, e, k⟩ := PostW.okOf k fun _ _ => gRng2_ex
  obtain ⟨i, j, rfl, hk, rfl⟩ := gRng2_ok e
  exact ⟨i, j, rv.int2, rngOk_ok hk, k S1 H1 (Step.refl s1.sub) _ (walk_r i (j - i).toNat)⟩
end
end Da
namespace Da
open PySem PySem.Spec L2
def chk (n : Nat) (f : List D → Res D) : List D → Res D := fun ds => if ds.length = n then f ds else .er
/-- what a def promises: it does to data what f does -/
def spD (K : PySem.W.Frag) (mg : Str → Option Value) (np : Nat) (md : Md) (f : List D → Res D) : Sp := fun vs H Q E => ∃ S ds, Same S H ∧ RepL K mg S vs ds ∧ Post K mg E S H md (chk np f ds) Q
def startE (n : Nat) (ds : List D) : Env := ds.map some ++ List.replicate (n - ds.length) none
/-- a body's run -/
def runF (n : Nat) (md : Md) (F : FS) (ds : List D) : Res D := match F (startE n ds) with
  | .ok (.rt d) => .ok d
  | .ok (.nx _) => if md = .sh then .ok .non else .er
  | .ok (.xc c fs _) => .ex c fs
  | _ => .er
abbrev msh (n : Nat) : Mds := List.replicate n .sh
theorem mdAt_msh {n i : Nat} : mdAt (msh n) i = .sh := by
  unfold mdAt
  rw [List.getD_eq_getElem?_getD, List.getElem?_replicate]
  split <;> rfl
theorem Post.chkd {K : PySem.W.Frag} {mg : Str → Option Value} {E : XK} {S H : Hp} {md : Md} {np : Nat} {f : List D → Res D} {ds : List D} {Q : VK} (h : Post K mg E S H md (chk np f ds) Q) : ds.length = np ∧ Post K mg E S H md (f ds) Q := by
  unfold chk at h
  split at h
  · rename_i e; exact ⟨e, h⟩
  · exact h.elim
section
variable {P : Program} {w : World} {K : PySem.W.Frag} {mg : Str → Option Value} {base : Heap}
theorem fn_ok {x qual : Str} {st : Stmt} {f : Addr} {fd : FuncData} {N ps : List Str} {k : Nat} {md : Md} {m' : Mds} {F : FS} (Fn : Fun K x qual st f fd) (Sc : FnScope N ps (defScope st)) (hnp : ps.length ≤ N.length)
    (h : ∀ (cdv : Value) (A : Around) (outer : List PySem.Env) (s : Shared) (H : Hp) (E : XK), Room k (A.deeper (PyProof.Rows.envOfC qual (defScope st) s.heap.objs.size f cdv)) →
      JSs (cxOf (L2.CX P w) P w K mg base N qual (defScope st) f cdv A outer s H E) (fun cls d _ H => E cls d H) ⟨[], [], md⟩ (msh N.length) m' (defBody st) F) :
    FnOk P w K mg base (L2.CX P w) (k + 1) f fd ps (spD K mg ps.length md (runF N.length md F)) := by
  refine Fn.okX Sc (fun vs H Q E hsp => ?_) (fun cdv A outer s H vs Q E hr hsp => ?_)
  · obtain ⟨S, ds, hs, rv, hp⟩ := hsp
    rw [rv.len]
    exact hp.chkd.1
  · obtain ⟨S, ds, hs, rv, hp⟩ := hsp
    obtain ⟨hl, hp⟩ := hp.chkd
    refine ⟨_, (h cdv A outer s H E hr).ps, S, H, startE N.length ds, ⟨S, fun _ => [], Step.refl hs, ⟨?_, fun i d e => ?_, fun i d e => List.nodup_nil, fun i j d e _ _ _ a ha => nomatch ha⟩, fun i d e a ha => nomatch ha⟩, ?_⟩
    · unfold startE L2.start
      rw [List.length_append, List.length_append, List.length_map, List.length_map, List.length_replicate, List.length_replicate, rv.len]
    · unfold startE at e
      by_cases hi : i < ds.length
      · rw [List.getElem?_append_left (by rw [List.length_map]; exact hi), List.getElem?_map, List.getElem?_eq_getElem hi] at e
        have e' : ds[i] = d := by injection e with e; injection e
        obtain ⟨v, ev, r⟩ := rv.get (List.getElem?_eq_getElem hi)
        refine ⟨v, ?_, ?_⟩
        · unfold L2.start
          rw [List.getElem?_append_left (by rw [List.length_map, rv.len]; exact hi), List.getElem?_map, ev]
          rfl
        · rw [mdAt_msh, ← e']
          exact ⟨r, rfl⟩
      · rw [List.getElem?_append_right (by rw [List.length_map]; omega), List.getElem?_replicate] at e
        split at e <;> cases e
    · unfold runF at hp
      cases ef : F (startE N.length ds) with
      | ok o =>
        rw [ef] at hp
        cases o with
        | nx ρ =>
          intro σ' H' ⟨S', F', st'⟩
          simp only at hp
          split at hp
          · rename_i hmd
            subst hmd
            exact hp .non S' H' [] st'.1 ⟨.non, rfl⟩ List.nodup_nil (fun a z => nomatch z)
          · exact hp.elim
        | rt d => exact fun v H' ⟨S', fp, s', o', n', f'⟩ => hp v S' H' fp s' o' n' f'
        | bk ρ => exact hp.elim
        | ct ρ => exact hp.elim
        | xc c fs ρ => exact fun σ' S' F' H' cls dd st' x' => hp S' H' cls dd st'.1 x'
      | ex c fs => rw [ef] at hp; exact hp.elim
      | er => rw [ef] at hp; exact hp.elim
end
section
variable {X : Cx} {E : WX} {m : Mds} {md : Md} {a b e : Expr} {es : List Expr} {fa fb : Env → Res D} {fs : Env → Res (List D)} {pos p : Pos} {x : Str} {k np : Nat} {f : Addr} {fd : FuncData} {ps : List Str} {g : List D → Res D}
/-- the def of this name keeps its promise -/
def Keeps (P : Program) (w : World) (K : PySem.W.Frag) (mg : Str → Option Value) (base : Heap) (x : Str) (k : Nat) (ps : List Str) (np : Nat) (md : Md) (g : List D → Res D) : Prop :=
  ∃ f fd, mg x = some (.ref f) ∧ PySem.W.keepIn K (.ref f) = true ∧ Binds K fd ps [] ∧ FnOk P w K mg base (L2.CX P w) k f fd ps (spD K mg np md g)
/-- the def of this name as it stands behind the top -/
def DefAt (K : PySem.W.Frag) (mg : Str → Option Value) (x qual : Str) (st : Stmt) (ps : List Str) : Prop := ∃ f fd, Fun K x qual st f fd ∧ Binds K fd ps [] ∧ mg x = some (.ref f)
theorem keeps_of {P : Program} {w : World} {K : PySem.W.Frag} {mg : Str → Option Value} {base : Heap} {x qual : Str} {st : Stmt} {ps N : List Str} {k : Nat} {md : Md} {F : FS} (dA : DefAt K mg x qual st ps) (Sc : FnScope N ps (defScope st)) (hnp : ps.length ≤ N.length)
    (h : ∀ (f : Addr) (cdv : Value) (A : Around) (outer : List PySem.Env) (s : Shared) (H : Hp) (E : XK), Room k (A.deeper (PyProof.Rows.envOfC qual (defScope st) s.heap.objs.size f cdv)) →
      JSs (cxOf (L2.CX P w) P w K mg base N qual (defScope st) f cdv A outer s H E) (fun cls d _ H => E cls d H) ⟨[], [], md⟩ (msh N.length) (msh N.length) (defBody st) F) : Keeps P w K mg base x (k + 1) ps ps.length md (runF N.length md F) := by
  obtain ⟨f, fd, Fn, bd, gl⟩ := dA
  exact ⟨f, fd, gl, Fn.kp, bd, fn_ok Fn Sc hnp (h f)⟩
/-- of what never gives anything -/
theorem keeps_er {P : Program} {w : World} {K : PySem.W.Frag} {mg : Str → Option Value} {base : Heap} {x qual : Str} {st : Stmt} {ps : List Str} {k np : Nat} {md : Md} (dA : DefAt K mg x qual st ps) : Keeps P w K mg base x k ps np md (fun _ => .er) := by
  obtain ⟨f, fd, Fn, bd, gl⟩ := dA
  have no : ∀ vs H Q E, spD K mg np md (fun _ => .er) vs H Q E → False := fun vs H Q E ⟨S, ds, hs, rv, hp⟩ => hp.chkd.2
  exact ⟨f, fd, gl, Fn.kp, bd, ⟨fun vs H Q E h => (no vs H Q E h).elim, fun A outer s H args us vs Q E hr he hb hv h => (no vs H Q E h).elim⟩⟩
theorem Keeps.mono {P : Program} {w : World} {K : PySem.W.Frag} {mg : Str → Option Value} {base : Heap} {x : Str} {ps : List Str} {k k' np : Nat} {md : Md} {g : List D → Res D} (G : Keeps P w K mg base x k ps np md g) (h : k ≤ k') : Keeps P w K mg base x k' ps np md g := by
  obtain ⟨f, fd, e1, e2, e3, G⟩ := G
  exact ⟨f, fd, e1, e2, e3, G.mono h⟩
theorem je_call (G : Keeps X.prog X.w X.K X.mg X.base x k ps np md g) (hr : Room k X.A) (tk : Takes X E)
    (ha : JA X E m (e :: es) fs) (hg : Gl X x := by rfl) (hdb : (x == ("__debug__" : Str)) = false := by decide) (he : starEach (e :: es) X.env = (false, eval e X.env) :: starEach es X.env := by rfl) (hpl : (backTo pos (starEach es X.env)).any (·.1) = false := by rfl) :
    JE X E m md (.Call (.Name x p) (e :: es) [] pos) (fOn (chk np g) fs) := by
  obtain ⟨f, fd, hm, hk, hb, G⟩ := G
  refine ⟨PEimp (pe_callS G hr hg hm hk hb (fun σ => passAt tk σ) ha.pa hdb he hpl) fun σ H Q h => ?_⟩
  obtain ⟨S, ρ, hm, hp⟩ := h
  exact ⟨S, ρ, hm, (Post.bind hp).imp fun ds S1 H1 s1 h1 vs rs => ⟨S1, ds, s1.sub, rs, h1⟩⟩
/-- an own new list that is not kept as one's own -/
theorem je_share (h : JE X E m md e fa) : JE X E m .sh e fa := by
  refine ⟨PEimp h.pe fun σ H Q q => ?_⟩
  obtain ⟨S, ρ, hm, hp⟩ := q
  refine ⟨S, ρ, hm, ?_⟩
  cases ef : fa ρ with
  | ok d =>
    rw [ef] at hp
    intro v S1 H1 fp s1 o hn hf
    let A : Addr → Prop := fun a => a ∈ fp
    have ho : ∀ a, A a → S1 a = none := fun a ha => (o.out ha).1
    refine hp v (take S1 H1 A) H1 [] ⟨s1.hh, s1.ss.trans (take_same s1.sub ho), take_sub s1.sub, fun a x => ?_⟩ ⟨o.shared s1.sub ho fun a ha => ha, rfl⟩ List.nodup_nil (fun a z => nomatch z)
    by_cases z : A a
    · exact .inr (hf a z)
    · rw [take_out z] at x
      exact s1.new a x
  | ex c fs => rw [ef] at hp; exact hp
  | er => rw [ef] at hp; exact hp.elim
end
section
variable {K : PySem.W.Frag} {mg : Str → Option Value}
theorem repl1 {S : Hp} {vs : List V} {d : D} (r : RepL K mg S vs [d]) : ∃ v, vs = [v] ∧ Rep K mg S v d := by
  match vs, r with
  | [], r => have := r.len; simp at this
  | [v], r => exact ⟨v, rfl, r.head⟩
  | _ :: _ :: _, r => have := r.len; simp at this
theorem repl2 {S : Hp} {vs : List V} {d e : D} (r : RepL K mg S vs [d, e]) : ∃ v w, vs = [v, w] ∧ Rep K mg S v d ∧ Rep K mg S w e := by
  match vs, r with
  | [], r => have := r.len; simp at this
  | [v], r => have := r.len; simp at this
  | [v, w], r => exact ⟨v, w, rfl, r.head, r.tail.head⟩
  | _ :: _ :: _ :: _, r => have := r.len; simp at this
/-- a rule of one argument -/
def on1 (g : D → Res D) : List D → Res D
  | [d] => g d
  | _ => .er
def on2 (g : D → D → Res D) : List D → Res D
  | [d, e] => g d e
  | _ => .er
theorem calld1 {md : Md} {r : List V → Hp → VK → Prop} {g : D → Res D} (h : ∀ (E : XK) (S H : Hp) (x : V) (d : D) (Q : VK), Same S H → Rep K mg S x d → Post K mg E S H md (g d) Q → r [x] H Q) : CallD K mg md r (on1 g) := by
  intro E S H xs ds Q hs rv hp
  match ds with
  | [] => exact hp.elim
  | [d] =>
    obtain ⟨v, rfl, rd⟩ := repl1 rv
    exact h E S H v d Q hs rd hp
  | _ :: _ :: _ => exact hp.elim
theorem calld2 {md : Md} {r : List V → Hp → VK → Prop} {g : D → D → Res D} (h : ∀ (E : XK) (S H : Hp) (x y : V) (d e : D) (Q : VK), Same S H → Rep K mg S x d → Rep K mg S y e → Post K mg E S H md (g d e) Q → r [x, y] H Q) : CallD K mg md r (on2 g) := by
  intro E S H xs ds Q hs rv hp
  match ds with
  | [] => exact hp.elim
  | [d] => exact hp.elim
  | [d, e] =>
    obtain ⟨v, w, rfl, rd, re⟩ := repl2 rv
    exact h E S H v w d e Q hs rd re hp
  | _ :: _ :: _ :: _ => exact hp.elim
def dLen : D → Res D
  | .lst xs => .ok (.int xs.length)
  | .frl xs => .ok (.int xs.length)
  | .tup xs => .ok (.int xs.length)
  | .str z => if szOk z.length = true then .ok (.int z.length) else .er
  | _ => .er
theorem calld_len : CallD K mg .sh (fun xs H Q => ∃ x n, xs = [x] ∧ LenV K x H n ∧ Q (.int n) H) (on1 dLen) := calld1 fun E S H x d Q hs rx hp => by
  cases d with
  | lst ds =>
    obtain ⟨a, vs, rfl, ha, rv⟩ := rx.of_lst
    exact ⟨_, vs.length, rfl, .inl ⟨_, .inl (.inl (hs _ _ ha)), rfl⟩, by rw [rv.len]; exact Post.val hp hs (.int _)⟩
  | frl ds =>
    obtain ⟨a, vs, rfl, ha, rv⟩ := rx.of_frl
    exact ⟨_, vs.length, rfl, .inl ⟨_, same_l hs ha, rfl⟩, by rw [rv.len]; exact Post.val hp hs (.int _)⟩
  | tup ds =>
    obtain ⟨a, vs, rfl, ha, rv⟩ := rx.of_tup
    exact ⟨_, vs.length, rfl, .inr ⟨_, same_t hs ha, rfl⟩, by rw [rv.len]; exact Post.val hp hs (.int _)⟩
  | str z =>
    obtain ⟨hz, hp⟩ := Post.of_if hp
    cases rx
    exact ⟨_, z.length, rfl, ⟨szOk_ok hz, rfl⟩, hp.val hs (.int _)⟩
  | _ => exact hp.elim
def dInt : D → Res D
  | .int i => .ok (.int i)
  | .bl b => .ok (.int (if b then 1 else 0))
  | _ => .er
def dAbs : D → Res D
  | .int i => .ok (.int (if i < 0 then -i else i))
  | _ => .er
def dMax2 : D → D → Res D
  | .int i, .int j => .ok (.int (if j > i then j else i))
  | _, _ => .er
def dMin2 : D → D → Res D
  | .int i, .int j => .ok (.int (if j < i then j else i))
  | _, _ => .er
end
section
variable {X : Cx} {E : WX} {m : Mds} {md : Md} {a b e : Expr} {es : List Expr} {fs : Env → Res (List D)} {pos p : Pos}
theorem je_len (hm : X.mg "len" = none) (ha : JA X E m [e] fs) (hg : Gl X "len" := by rfl) (he : starEach [e] X.env = (false, eval e X.env) :: starEach [] X.env := by rfl) : JE X E m .sh (.Call (.Name "len" p) [e] [] pos) (fOn (on1 dLen) fs) :=
  je_callB call_len calld_len hm ha hg boot_len (by decide) (by decide) he (by rfl)
theorem je_int_ (hm : X.mg "int" = none) (ha : JA X E m [e] fs) (hg : Gl X "int" := by rfl) (he : starEach [e] X.env = (false, eval e X.env) :: starEach [] X.env := by rfl) : JE X E m .sh (.Call (.Name "int" p) [e] [] pos) (fOn (on1 dInt) fs) :=
  je_callTy call_int1 (calld1 fun E S H x d Q hs rx hp => by
    cases d with
    | int i => cases rx; exact .inl ⟨i, rfl, Post.val hp hs (.int _)⟩
    | bl i => cases rx; exact .inr ⟨i, rfl, Post.val hp hs (.int _)⟩
    | _ => exact hp.elim) hm ha hg (by decide +kernel) (by decide) (by decide) he (by rfl)
theorem je_abs (hm : X.mg "abs" = none) (ha : JA X E m [e] fs) (hg : Gl X "abs" := by rfl) (he : starEach [e] X.env = (false, eval e X.env) :: starEach [] X.env := by rfl) : JE X E m .sh (.Call (.Name "abs" p) [e] [] pos) (fOn (on1 dAbs) fs) :=
  je_callB call_abs (calld1 fun E S H x d Q hs rx hp => by
    cases d with
    | int i => cases rx; exact ⟨i, rfl, Post.val hp hs (.int _)⟩
    | _ => exact hp.elim) hm ha hg (by decide +kernel) (by decide) (by decide) he (by rfl)
end
end Da
namespace Da
open PySem PySem.Spec L2
mutual
def D.py : D → Option PyData
  | .non => some .none
  | .bl b => some (.bool b)
  | .int i => some (.int i)
  | .str x => some (.str x)
  | .lst xs => match D.pys xs with
    | some ys => some (.list ys)
    | none => none
  | .tup xs => match D.pys xs with
    | some ys => some (.tuple ys)
    | none => none
  | _ => none
def D.pys : List D → Option (List PyData)
  | [] => some []
  | x :: xs => match D.py x, D.pys xs with
    | some y, some ys => some (y :: ys)
    | _, _ => none
end
section
variable {K : PySem.W.Frag} {mg : Str → Option Value} {S : Hp}
mutual
theorem dp_of : ∀ (d : D) (v : V) (y : PyData), Rep K mg S v d → D.py d = some y → Dp K S v y
  | .non, v, y, h, e => by cases h; cases e; exact .non
  | .bl b, v, y, h, e => by cases h; cases e; exact .bl b
  | .int i, v, y, h, e => by cases h; cases e; exact .int i
  | .str x, v, y, h, e => by cases h; cases e; exact .str x
  | .lst xs, v, y, h, e => by
    unfold D.py at e
    split at e
    · rename_i ys ey
      cases e
      obtain ⟨a, vs, rfl, ha, r⟩ := h.of_lst
      exact .lst (.inl (.inl ha)) (dps_of xs vs ys r ey)
    · cases e
  | .tup xs, v, y, h, e => by
    unfold D.py at e
    split at e
    · rename_i ys ey
      cases e
      obtain ⟨a, vs, rfl, ha, r⟩ := h.of_tup
      exact .tup ha (dps_of xs vs ys r ey)
    · cases e
  | .frl xs, v, y, h, e => by simp [D.py] at e
  | .dic ks vs, v, y, h, e => by simp [D.py] at e
  | .dit ks vs, v, y, h, e => by simp [D.py] at e
  | .obj c ns vs, v, y, h, e => by simp [D.py] at e
theorem dps_of : ∀ (ds : List D) (vs : List V) (ys : List PyData), RepL K mg S vs ds → D.pys ds = some ys → DpAll K S vs ys
  | [], vs, ys, r, e => by
    cases e
    rw [r.nil_iff.mpr rfl]
    exact .nil
  | d :: ds, vs, ys, r, e => by
    unfold D.pys at e
    split at e
    · rename_i y ys' e1 e2
      cases e
      match vs, r with
      | [], r => have := r.len; simp at this
      | v :: vs, r => exact .cons (dp_of d v y r.head e1) (dps_of ds vs ys' r.tail e2)
    · cases e
end
theorem dp_mono {H : Hp} (h : Same S H) : ∀ {v : V} {y : PyData}, Dp K S v y → Dp K H v y := fun {v y} x => Dp.rec (motive_1 := fun v y _ => Dp K H v y) (motive_2 := fun vs ys _ => DpAll K H vs ys)
  .non .bl .int .str (fun a _ ih => .lst (same_l h a) ih) (fun a _ ih => .tup (same_t h a) ih) .nil (fun _ _ a b => .cons a b) x
end
/-- are they equal -/
def eqD (x y : D) : Res Bool := match D.py x, D.py y with
  | some a, some b => if (SeqAt.shaped a && SeqAt.shaped b) = true then .ok (PyData.eqv a b) else .er
  | _, _ => .er
def dEq (x y : D) : Res D := (eqD x y).bind fun b => .ok (.bl b)
def dNe (x y : D) : Res D := (eqD x y).bind fun b => .ok (.bl (!b))
section
variable {K : PySem.W.Frag} {mg : Str → Option Value} {E : XK} {S H : Hp}
theorem eqD_ok {x y : D} {r : Bool → Res D} {Q : VK} (h : Post K mg E S H .sh ((eqD x y).bind r) Q) : ∃ a b, D.py x = some a ∧ D.py y = some b ∧ SeqAt.shaped a = true ∧ SeqAt.shaped b = true ∧ Post K mg E S H .sh (r (PyData.eqv a b)) Q := by
  unfold eqD at h
  split at h
  · rename_i a b ea eb
    split at h
    · rename_i hs
      have hs := Bool.and_eq_true_iff.mp hs
      exact ⟨a, b, ea, eb, hs.1, hs.2, h⟩
    · exact h.elim
  · exact h.elim
theorem opd_eq : OpD K mg .sh (rEqD K) dEq := by
  intro E S H x y dx dy Q hs rx ry h
  obtain ⟨a, b, ea, eb, sa, sb, h⟩ := eqD_ok h
  exact ⟨a, b, dp_mono hs (dp_of dx x a rx ea), dp_mono hs (dp_of dy y b ry eb), sa, sb, Post.val h hs (.bl _)⟩
theorem opd_ne : OpD K mg .sh (rNeD K) dNe := by
  intro E S H x y dx dy Q hs rx ry h
  obtain ⟨a, b, ea, eb, sa, sb, h⟩ := eqD_ok h
  exact ⟨a, b, dp_mono hs (dp_of dx x a rx ea), dp_mono hs (dp_of dy y b ry eb), sa, sb, Post.val h hs (.bl _)⟩
end
section
variable {K : PySem.W.Frag} {mg : Str → Option Value}
def dIsN : D → Res D
  | .non => .ok (.bl true)
  | _ => .ok (.bl false)
def dIsB (c : Bool) : D → Res D
  | .bl b => .ok (.bl (b == c))
  | _ => .ok (.bl false)
theorem non_iff {S : Hp} {v : V} {d : D} (r : Rep K mg S v d) : dIsN d = .ok (.bl (decide (v = .non))) := by
  cases r <;> rfl
theorem bl_iff {S : Hp} {v : V} {d : D} {c : Bool} (r : Rep K mg S v d) : dIsB c d = .ok (.bl (decide (v = .bl c))) := by
  cases r with
  | bl b => cases b <;> cases c <;> rfl
  | _ => rfl
end
section
variable {X : Cx}
def rIsB1 (c : Bool) : R2 := fun x y H Q => y = .bl c ∧ Q (.bl (decide (x = .bl c))) H
theorem plainB {x : V} {v : Value} {c : Bool} (r : RelV x v) : plainIs v (.bool c) = true ∧ (decide (x = .bl c) = (v == .bool c)) := by
  cases x with
  | non => cases r; exact ⟨rfl, rfl⟩
  | bl b => cases r; cases b <;> cases c <;> exact ⟨rfl, rfl⟩
  | int i => obtain ⟨t, rfl⟩ := r; exact ⟨rfl, rfl⟩
  | str i => obtain ⟨t, rfl⟩ := r; exact ⟨rfl, rfl⟩
  | byt i => obtain ⟨t, rfl⟩ := r; exact ⟨rfl, rfl⟩
  | flt i => obtain ⟨t, rfl⟩ := r; exact ⟨rfl, rfl⟩
  | ref a => cases r; exact ⟨rfl, rfl⟩
  | ty n => cases r; exact ⟨rfl, rfl⟩
theorem op_isB1 (c : Bool) : OpR X (compareOp .Is) (rIsB1 c) := fun pins s σ H x y v u Q I rx ry h => by
  obtain ⟨rfl, q⟩ := h
  cases ry
  obtain ⟨h1, h2⟩ := plainB (c := c) rx
  exact wpAny_is_plain h1 ⟨.bl _, H, I, by rw [← h2]; rfl, q⟩
end
section
variable {X : Cx} {E : WX} {m : Mds} {md : Md} {a b e : Expr} {es : List Expr} {fa fb : Env → Res D} {fs : Env → Res (List D)} {pos p pc : Pos} {k j : Nat}
/-- room for what asks no call's depth -/
def RmU (A : Around) : Prop := A.units + 200 < cLine
theorem _root_.L2.Room.u {A : Around} {k : Nat} (hr : Room k A) : RmU A := by have := hr.un; unfold RmU; omega
theorem hu64 {A : Around} (hr : RmU A) : A.units + 64 < cLine := by unfold RmU at hr; omega
theorem je_eq (hr : RmU X.A) (ha : JE X E m .sh a fa) (hb : JE X E m .sh b fb) : JE X E m .sh (.Compare a [.Eq] [b] pos) (f2 dEq fa fb) := je_cmp (op_eqD (hu64 hr)) opd_eq ha hb (nomark _)
theorem jt_eq (hr : RmU X.A) (ha : JE X E m .sh a fa) (hb : JE X E m .sh b fb) : JT X E m (.Compare a [.Eq] [b] pos) (fB (f2 dEq fa fb)) := jt_cmp (op_eqD (hu64 hr)) opd_eq ha hb (nomark _)
theorem jt_ne (hr : RmU X.A) (ha : JE X E m .sh a fa) (hb : JE X E m .sh b fb) : JT X E m (.Compare a [.NotEq] [b] pos) (fB (f2 dNe fa fb)) := jt_cmp (op_neD (hu64 hr)) opd_ne ha hb (nomark _)
theorem un_tE {K : PySem.W.Frag} {mg : Str → Option Value} {r : R2} {g : D → Res D} {c : V} {d0 : D} (hr : ∀ (E : XK) (S H : Hp) (x : V) (d : D) (Q : VK), Same S H → Rep K mg S x d → Post K mg E S H .sh (g d) Q → r x c H Q) {σ : L2.St} {H : Hp} {Q : VK}
    (h : tE K mg E m .sh (f1 g fa) σ H Q) : tOp r (tE K mg E m .sh fa) (tC c) σ H Q := by
  obtain ⟨S, ρ, hm, hp⟩ := h
  exact ⟨S, ρ, hm, (Post.bind hp).post fun dx v S1 H1 s1 r1 h1 => hr _ S1 H1 v dx Q s1.sub r1 h1⟩
theorem isN_ok {K : PySem.W.Frag} {mg : Str → Option Value} (E : XK) (S H : Hp) (x : V) (d : D) (Q : VK) (hs : Same S H) (r : Rep K mg S x d) (h : Post K mg E S H .sh (dIsN d) Q) : Q (.bl (decide (x = .non))) H := by
  rw [non_iff r] at h
  exact h.val hs (.bl _)
theorem isB_ok {K : PySem.W.Frag} {mg : Str → Option Value} {c : Bool} (E : XK) (S H : Hp) (x : V) (d : D) (Q : VK) (hs : Same S H) (r : Rep K mg S x d) (h : Post K mg E S H .sh (dIsB c d) Q) : Q (.bl (decide (x = .bl c))) H := by
  rw [bl_iff r] at h
  exact h.val hs (.bl _)
theorem tT_of {K : PySem.W.Frag} {mg : Str → Option Value} {f : Env → Res D} {t : TE} (ht : ∀ σ H Q, tE K mg E m .sh f σ H Q → t σ H Q) {σ : L2.St} {H : Hp} {Q : Bool → Hp → Prop} (h : tT K mg E m (fB f) σ H Q) : tTest t σ H Q := by
  obtain ⟨S, ρ, hm, hp⟩ := h
  refine ht σ H _ ⟨S, ρ, hm, (PostW.bind hp).post fun d v S1 H1 s1 r k => ?_⟩
  cases d with
  | bl c => cases r; exact ⟨c, rfl, k S1 H1 (Step.refl s1.sub)⟩
  | _ => exact k.elim
theorem je_isN (ha : JE X E m .sh a fa) : JE X E m .sh (.Compare a [.Is] [.Constant .none j pc] pos) (f1 dIsN fa) := ⟨PEimp (pe_cmpR op_isN ha.pe pe_non (nomark _)) fun σ H Q h => un_tE (d0 := .non) (fun E S H x d Q hs r h => ⟨rfl, isN_ok E S H x d Q hs r h⟩) h⟩
theorem je_isB {c : Bool} (ha : JE X E m .sh a fa) : JE X E m .sh (.Compare a [.Is] [.Constant (.bool c) j pc] pos) (f1 (dIsB c) fa) := ⟨PEimp (pe_cmpR (op_isB1 c) ha.pe pe_bl (nomark _)) fun σ H Q h => un_tE (d0 := .non) (fun E S H x d Q hs r h => ⟨rfl, isB_ok E S H x d Q hs r h⟩) h⟩
theorem jt_isN (ha : JE X E m .sh a fa) : JT X E m (.Compare a [.Is] [.Constant .none j pc] pos) (fB (f1 dIsN fa)) := ⟨PTimp (pt_cmpR op_isN ha.pe pe_non (nomark _)) fun σ H Q h => tT_of (fun σ H Q h => un_tE (d0 := .non) (fun E S H x d Q hs r h => ⟨rfl, isN_ok E S H x d Q hs r h⟩) h) h⟩
theorem jt_isB {c : Bool} (ha : JE X E m .sh a fa) : JT X E m (.Compare a [.Is] [.Constant (.bool c) j pc] pos) (fB (f1 (dIsB c) fa)) := ⟨PTimp (pt_cmpR (op_isB1 c) ha.pe pe_bl (nomark _)) fun σ H Q h => tT_of (fun σ H Q h => un_tE (d0 := .non) (fun E S H x d Q hs r h => ⟨rfl, isB_ok E S H x d Q hs r h⟩) h) h⟩
end
def tyNm : D → Option String
  | .non => some "NoneType"
  | .bl _ => some "bool"
  | .int _ => some "int"
  | .str _ => some "str"
  | .lst _ => some "list"
  | .frl _ => some "list"
  | .tup _ => some "tuple"
  | .dic _ _ => some "dict"
  | .dit _ _ => some "dict"
  | .obj _ _ _ => none
  | .exc _ _ _ => none
def isTy (T : String) (d : D) : Res Bool := match tyNm d with
  | some a => (match kitB a T with
    | some b => .ok b
    | none => .er)
  | none => .er
def dIsi (T : String) (d : D) : Res D := (isTy T d).bind fun b => .ok (.bl b)
def dIsi2 (T U : String) (d : D) : Res D := (isTy T d).bind fun b => if b = true then .ok (.bl true) else (isTy U d).bind fun c => .ok (.bl c)
section
variable {K : PySem.W.Frag} {mg : Str → Option Value}
theorem tyx_of {S H : Hp} {v : V} {d : D} {a : String} (hs : Same S H) (r : Rep K mg S v d) (h : tyNm d = some a) : TyX K H v (.type a) := by
  cases r with
  | non => cases h; exact .base .non
  | bl b => cases h; exact .base (.bl b)
  | int b => cases h; exact .base (.int b)
  | str b => cases h; exact .base (.str b)
  | lst e => cases h; exact .base (.lst (hs _ _ e))
  | frl e =>
    cases h
    rcases e with (e | ⟨o, e⟩) | ⟨o, its, n, e, c, _⟩
    · exact .base (.lst (hs _ _ e))
    · exact .base (.frz (hs _ _ e))
    · exact .kList e c
  | tup e =>
    cases h
    exact .base (.tup (hs _ _ e))
  | dic e =>
    cases h
    rcases e with e | ⟨o, e⟩
    · exact .base (.dK (hs _ _ e))
    · exact .fDict (hs _ _ e)
  | dit e => cases h; exact .base (.dT (hs _ _ e))
  | exc => cases h
  | obj e => cases h
theorem isTy_ok {S H : Hp} {v : V} {d : D} {T : String} {b : Bool} (hs : Same S H) (r : Rep K mg S v d) (h : isTy T d = .ok b) : ∃ t, TyX K H v t ∧ PySem.W.kitOne K t (.type T) = some b := by
  unfold isTy at h
  split at h
  · rename_i a ea
    split at h
    · rename_i c ec
      injection h with h
      subst h
      exact ⟨.type a, tyx_of hs r ea, kit_ty ec⟩
    · cases h
  · cases h
end
section
variable {X : Cx} {E : WX} {m : Mds} {md : Md} {a b e : Expr} {es : List Expr} {fa fb : Env → Res D} {fs : Env → Res (List D)} {pos p p1 p2 p3 : Pos} {x1 : Nat}
theorem isTy_post {K : PySem.W.Frag} {mg : Str → Option Value} {E : XK} {S H : Hp} {T : String} {d : D} {r : Bool → Res D} {Q : VK} (h : Post K mg E S H .sh ((isTy T d).bind r) Q) : ∃ b, isTy T d = .ok b ∧ Post K mg E S H .sh (r b) Q := by
  cases e : isTy T d with
  | ok b => rw [e] at h; exact ⟨b, rfl, h⟩
  | ex c fs =>
    exfalso
    unfold isTy at e
    split at e
    · split at e <;> cases e
    · cases e
  | er => rw [e] at h; exact h.elim
theorem je_isi (T : String) {nT : Str} (hm : X.mg "isinstance" = none) (hT : X.mg nT = none) (ha : JE X E m .sh a fa) (hv : bootBuiltins nT = some (.type T) := by decide +kernel) (hg : Gl X "isinstance" := by rfl) (hgT : Gl X nT := by rfl) (hn : nT ≠ "__name__" := by decide) (hdb : (nT == ("__debug__" : Str)) = false := by decide)
    (he : starEach [a, .Name nT p2] X.env = (false, eval a X.env) :: starEach [.Name nT p2] X.env := by rfl) (he2 : starEach [.Name nT p2] X.env = (false, eval (.Name nT p2) X.env) :: starEach [] X.env := by rfl) (hpl : (backTo pos (starEach [.Name nT p2] X.env)).any (·.1) = false := by rfl) :
    JE X E m .sh (.Call (.Name "isinstance" p) [a, .Name nT p2] [] pos) (f1 (dIsi T) fa) := by
  refine ⟨PEimp (pe_callB call_isi hg hm (by decide +kernel) (pa_cons ha.pe (pa_cons (pe_bltn (v := .ty T) hgT hT hv rfl hn hdb) pa_nil he2) he) (by decide) (by decide) he hpl) fun σ H Q h => ?_⟩
  obtain ⟨S, ρ, hm, hp⟩ := h
  refine ⟨S, ρ, hm, (Post.bind hp).post fun d v S1 H1 s1 r k => ?_⟩
  obtain ⟨bb, eb, k⟩ := isTy_post k
  obtain ⟨t, ty, kt⟩ := isTy_ok s1.sub r eb
  exact ⟨v, .ty T, t, .type T, bb, rfl, .ty T, ty, kt, k.val s1.sub (.bl _)⟩
theorem je_isi2 (T U : String) {nT nU : Str} (hm : X.mg "isinstance" = none) (hT : X.mg nT = none) (hU : X.mg nU = none) (ha : JE X E m .sh a fa) (hv : bootBuiltins nT = some (.type T) := by decide +kernel) (hvU : bootBuiltins nU = some (.type U) := by decide +kernel) (hg : Gl X "isinstance" := by rfl)
    (hgT : Gl X nT := by rfl) (hgU : Gl X nU := by rfl) (hn : nT ≠ "__name__" := by decide) (hdb : (nT == ("__debug__" : Str)) = false := by decide) (hnU : nU ≠ "__name__" := by decide) (hdbU : (nU == ("__debug__" : Str)) = false := by decide)
    (he : starEach [a, .Tuple [.Name nT p2, .Name nU p3] x1 p1] X.env = (false, eval a X.env) :: starEach [.Tuple [.Name nT p2, .Name nU p3] x1 p1] X.env := by rfl)
    (he2 : starEach [.Tuple [.Name nT p2, .Name nU p3] x1 p1] X.env = (false, eval (.Tuple [.Name nT p2, .Name nU p3] x1 p1) X.env) :: starEach [] X.env := by rfl) (hpl : (backTo pos (starEach [.Tuple [.Name nT p2, .Name nU p3] x1 p1] X.env)).any (·.1) = false := by rfl)
    (ht1 : starEach [.Name nT p2, .Name nU p3] X.env = (false, eval (.Name nT p2) X.env) :: starEach [.Name nU p3] X.env := by rfl) (ht2 : starEach [.Name nU p3] X.env = (false, eval (.Name nU p3) X.env) :: starEach [] X.env := by rfl) :
    JE X E m .sh (.Call (.Name "isinstance" p) [a, .Tuple [.Name nT p2, .Name nU p3] x1 p1] [] pos) (f1 (dIsi2 T U) fa) := by
  refine ⟨PEimp (pe_callB call_isiT hg hm (by decide +kernel) (pa_cons ha.pe (pa_cons (pe_tup (pa_cons (pe_bltn (v := .ty T) hgT hT hv rfl hn hdb) (pa_cons (pe_bltn (v := .ty U) hgU hU hvU rfl hnU hdbU) pa_nil ht2) ht1)) pa_nil he2) he) (by decide) (by decide) he hpl) fun σ H Q h => ?_⟩
  obtain ⟨S, ρ, hm, hp⟩ := h
  refine ⟨S, ρ, hm, (Post.bind hp).post fun d v S1 H1 s1 r k => ⟨by show 2 ≤ sizeLine; decide, fun tp ntp => ?_⟩⟩
  obtain ⟨bb, eb, k⟩ := isTy_post k
  have s2 := Step.laid (o := .tup [V.ty T, V.ty U]) s1.sub ntp
  obtain ⟨t, ty, kt⟩ := isTy_ok (s1.sub.trans s2.hh) r eb
  cases bb with
  | true => exact ⟨v, tp, [.ty T, .ty U], t, [.type T, .type U], true, rfl, upd_same, .cons (.ty T) (.cons (.ty U) .nil), ty, kitAny_cons kt (fun z => nomatch z) (fun _ => rfl), (Post.step s2 k).val s2.sub (.bl _)⟩
  | false =>
    obtain ⟨cc, ec, k⟩ := isTy_post k
    have e' : tyNm d = tyNm d := rfl
    unfold isTy at eb ec
    split at eb
    · rename_i a' ea
      rw [ea] at ec
      have ec : (match kitB a' U with
        | some b => Res.ok b
        | none => .er) = .ok cc := ec
      split at eb
      · rename_i b1 k1
        split at ec
        · rename_i b2 k2
          cases eb; cases ec
          have ty' := tyx_of (s1.sub.trans s2.hh) r ea
          exact ⟨v, tp, [.ty T, .ty U], .type a', [.type T, .type U], _, rfl, upd_same, .cons (.ty T) (.cons (.ty U) .nil), ty', kitAny_cons (kit_ty k1) (fun _ => kitAny_cons (kit_ty k2) (fun h => by subst h; exact kitAny_nil) (fun h => h)) (fun z => nomatch z), (Post.step s2 k).val s2.sub (.bl _)⟩
        · cases ec
      · cases eb
    · cases eb
end
def isSc : D → Bool
  | .non => true
  | .bl _ => true
  | .int _ => true
  | .str _ => true
  | _ => false
def fSc (f : Env → Res D) : Env → Res D := fun ρ => match f ρ with
  | .ok d => if isSc d = true then .ok d else .er
  | _ => .er
def fNx {α : Type} (f : Env → Res α) : Env → Res α := fun ρ => match f ρ with
  | .ok d => .ok d
  | _ => .er
section
variable {K : PySem.W.Frag} {mg : Str → Option Value} {m m1 : Mds} {S H : Hp} {σ : L2.St} {ρ : Env}
/-- all slots as shared ones -/
theorem EnvM.peek (h : EnvM K mg m S H σ ρ) (w : Weak m m1) : ∃ S', Same S S' ∧ EnvM K mg m1 S' H σ ρ := by
  obtain ⟨hs, F, e⟩ := h
  have st : StF K mg m (fun _ => none) (fun _ => none) S F σ ρ H := ⟨⟨(fun a o z => nomatch z), (fun a o z => nomatch z), hs, (fun a _ => .inr rfl)⟩, e, fun i d _ a _ => rfl⟩
  obtain ⟨S', F', st', ss⟩ := st.weak w
  exact ⟨S', ss, st'.envM⟩
theorem Rep.sc {S S' : Hp} {v : V} {d : D} (h : Rep K mg S v d) (hd : isSc d = true) : Rep K mg S' v d := by
  cases h with
  | non => exact .non
  | bl b => exact .bl b
  | int b => exact .int b
  | str b => exact .str b
  | _ => cases hd
end
section
variable {X : Cx} {E : WX} {m m1 : Mds} {md : Md} {a b e : Expr} {es : List Expr} {f fa fb : Env → Res D} {g : Env → Res Bool} {pos p : Pos} {x : Str}
theorem je_borrow (h : JE X E m1 .sh e f) (w : Weak m m1 := by first | exact Weak.of (by decide) | exact weak_sh _ | (repeat (first | exact Weak.refl _ | exact weak_sh _ | apply Weak.cons | apply Weak.consSh))) : JE X E m .sh e (fSc f) := by
  refine ⟨PEimp h.pe fun σ H Q q => ?_⟩
  obtain ⟨S, ρ, hm, hp⟩ := q
  obtain ⟨S', ss, hm'⟩ := hm.peek w
  refine ⟨S', ρ, hm', ?_⟩
  unfold fSc at hp
  split at hp
  · rename_i d ed
    obtain ⟨hd, hp⟩ := Post.of_if hp
    rw [ed]
    intro v S1 H1 fp s1 o _ _
    exact hp v S H1 [] ⟨s1.hh, Same.refl _, hm.1.trans s1.hh, fun _ x => .inl x⟩ ⟨o.1.sc hd, rfl⟩ List.nodup_nil (fun a z => nomatch z)
  · exact hp.elim
theorem jt_borrow (h : JT X E m1 e g) (w : Weak m m1 := by first | exact Weak.of (by decide) | exact weak_sh _ | (repeat (first | exact Weak.refl _ | exact weak_sh _ | apply Weak.cons | apply Weak.consSh))) : JT X E m e (fNx g) := by
  refine ⟨PTimp h.pt fun σ H Q q => ?_⟩
  obtain ⟨S, ρ, hm, hp⟩ := q
  obtain ⟨S', ss, hm'⟩ := hm.peek w
  refine ⟨S', ρ, hm', ?_⟩
  unfold fNx at hp
  split at hp
  · rename_i d ed
    rw [ed]
    intro S1 H1 s1
    exact hp S H1 ⟨s1.hh, Same.refl _, hm.1.trans s1.hh, fun _ x => .inl x⟩
  · exact hp.elim
/-- an item of an own list: shared data -/
theorem je_itemO (i : Nat) (hb : JE X E m .sh b fb) (hmd : IsOw (mdAt m i) := by first | exact .inl rfl | exact .inr ⟨_, rfl⟩) (hN : X.N[i]? = some x := by rfl) (hv : Vis X.env.scope x := by first | exact Or.inl rfl | exact Or.inr (Or.inl rfl) | exact Or.inr (Or.inr rfl)) (hd : (x == ("__debug__" : Str)) = false := by decide)
    (hcd : (x == ("__classdict__" : Str)) = false := by decide) (hs : PlainIx b := by intro _ _; rfl) : JE X E m .sh (.Subscript (.Name x p) b pos) (f2 dIx (fV i) fb) := by
  refine ⟨PEimp (pe_ix ix_seq (pe_var hN hv hd hcd) hb.pe hs) fun σ H Q h => ?_⟩
  obtain ⟨S, ρ, hm, hp⟩ := h
  obtain ⟨hsub, F, e⟩ := id hm
  unfold f2 fV at hp
  split at hp
  · rename_i d ed
    obtain ⟨v, e1, o⟩ := e.at_ i d ed
    obtain ⟨q, vs, ds, rfl, rfl, e3, e4, e5, e6⟩ : ∃ q vs ds, v = .ref q ∧ d = .lst ds ∧ F i = [q] ∧ S q = none ∧ H q = some (.lst vs) ∧ RepL X.K X.mg S vs ds := by
      rcases hmd with hmd | ⟨q0, hmd⟩
      · rw [hmd] at o
        exact o
      · rw [hmd] at o
        exact o.2
    have hp : Post X.K X.mg (WE E σ) S H .sh ((fb ρ).bind fun y => dIx (.lst ds) y) Q := hp
    refine ⟨_, e1, S, ρ, hm, (Post.bind hp).post fun dy y S1 H1 s1 r k => ?_⟩
    cases dy with
    | int j =>
      cases r
      simp only [dIx] at k
      split at k
      · rename_i d' ed'
        obtain ⟨v', ev, rv⟩ := e6.atI ed'
        exact .inl ⟨q, vs, j, v', rfl, rfl, .inl (.inl (s1.hh _ _ e5)), ev, k.val s1.sub (rv.mono s1.ss)⟩
      · exact k.elim
    | _ => exact k.elim
  · exact hp.elim
end
end Da
namespace Da
open PySem PySem.Spec L2
def trD : D → Res Bool
  | .non => .ok false
  | .bl b => .ok b
  | .int i => .ok (i != 0)
  | .str z => if szOk z.length = true then .ok ((z.length : Int) != 0) else .er
  | .lst xs => .ok (!xs.isEmpty)
  | .frl xs => .ok (!xs.isEmpty)
  | .tup xs => .ok (!xs.isEmpty)
  | _ => .er
def fTr (f : Env → Res D) : Env → Res Bool := fun ρ => (f ρ).bind trD
section
variable {K : PySem.W.Frag} {mg : Str → Option Value}
theorem RepL.empty {S : Hp} {vs : List V} {ds : List D} (r : RepL K mg S vs ds) : (!ds.isEmpty) = !vs.isEmpty := by
  have := r.len
  cases vs with
  | nil =>
    cases ds with
    | nil => rfl
    | cons _ _ => simp at this
  | cons _ _ =>
    cases ds with
    | nil => simp at this
    | cons _ _ => rfl
theorem tru_of {S H : Hp} {v : V} {d : D} {b : Bool} (hs : Same S H) (r : Rep K mg S v d) (h : trD d = .ok b) : TruV K v H b := by
  cases d with
  | non => cases r; cases h; rfl
  | bl c => cases r; cases h; rfl
  | int c => cases r; cases h; rfl
  | str z =>
    cases r
    simp only [trD] at h
    split at h
    · rename_i hz
      cases h
      exact ⟨szOk_ok hz, rfl⟩
    · cases h
  | lst xs =>
    obtain ⟨a, vs, rfl, ha, rv⟩ := r.of_lst
    simp only [trD] at h
    cases h
    exact .inl ⟨vs, .inl (.inl (hs _ _ ha)), rv.empty⟩
  | frl xs =>
    obtain ⟨a, vs, rfl, ha, rv⟩ := r.of_frl
    simp only [trD] at h
    cases h
    exact .inl ⟨vs, same_l hs ha, rv.empty⟩
  | tup xs =>
    obtain ⟨a, vs, rfl, ha, rv⟩ := r.of_tup
    simp only [trD] at h
    cases h
    exact .inr (.inl ⟨vs, same_t hs ha, rv.empty⟩)
  | _ => cases h
end
section
variable {X : Cx} {E : WX} {m : Mds} {md : Md} {a b c e : Expr} {es : List Expr} {f fa fb fc : Env → Res D} {fs : Env → Res (List D)} {pos p p1 p2 : Pos} {x : Str}
theorem jt_tr (h : JE X E m .sh e f) (he : ∀ whole, isTrue e X.env whole = (do let v ← whole; standAt e.pos; holding [v] (truthy v)) := by intro _; rfl) : JT X E m e (fTr f) := by
  refine ⟨PTimp (pt_truth h.pe he) fun σ H Q q => ?_⟩
  obtain ⟨S, ρ, hm, hp⟩ := q
  refine ⟨S, ρ, hm, (PostW.bind hp).post fun d v S1 H1 s1 r k => ?_⟩
  cases ed : trD d with
  | ok bb =>
    rw [ed] at k
    exact ⟨bb, tru_of s1.sub r ed, k S1 H1 (Step.refl s1.sub)⟩
  | ex c fs =>
    exfalso
    cases d with
    | str z => simp only [trD] at ed; split at ed <;> cases ed
    | _ => simp only [trD] at ed; cases ed
  | er => rw [ed] at k; exact k.elim
def fChain (g g' : D → D → Res D) (fa fb fc : Env → Res D) : Env → Res D := fun ρ => (fa ρ).bind fun x => (fb ρ).bind fun y => (g x y).bind fun z => match z with
  | .bl true => (fc ρ).bind fun w => g' y w
  | .bl false => .ok (.bl false)
  | _ => .er
theorem chain_ok {K : PySem.W.Frag} {mg : Str → Option Value} {r r' : R2} {g g' : D → D → Res D} (hr : OpD K mg .sh r g) (hr' : OpD K mg .sh r' g') {σ : L2.St} {H : Hp} {Q : VK} (h : tE K mg E m .sh (fChain g g' fa fb fc) σ H Q) : tChain r r' (tE K mg E m .sh fa) (tE K mg E m .sh fb) (tE K mg E m .sh fc) σ H Q := by
  obtain ⟨S, ρ, hm, hp⟩ := h
  refine ⟨S, ρ, hm, (Post.bind hp).post fun dx v S1 H1 s1 r1 h1 => ⟨S1, ρ, hm.step s1, (Post.bind h1).post fun dy w S2 H2 s2 r2 h2 => ?_⟩⟩
  refine hr _ S2 H2 v w dx dy _ s2.sub (r1.mono s2.ss) r2 ((Post.bind h2).post fun dz z S3 H3 s3 r3 h3 => ?_)
  cases dz with
  | bl k =>
    cases r3
    refine ⟨k, rfl, ?_⟩
    cases k with
    | true => exact ⟨S3, ρ, (hm.step s1).step (s2.trans s3), (Post.bind h3).post fun dw u S4 H4 s4 r4 h4 => hr' _ S4 H4 w u dy dw Q s4.sub (r2.mono (s3.ss.trans s4.ss)) r4 h4⟩
    | false => exact Post.val h3 s3.sub (.bl false)
  | _ => exact h3.elim
theorem je_chain {op op' : CmpOp} {r r' : R2} {g g' : D → D → Res D} (ho : OpR X (compareOp op) r) (ho' : OpR X (compareOp op') r') (hr : OpD X.K X.mg .sh r g) (hr' : OpD X.K X.mg .sh r' g') (ha : JE X E m .sh a fa) (hb : JE X E m .sh b fb) (hc : JE X E m .sh c fc)
    (hm : lastMarks [op, op'] [b, c] = false := by with_unfolding_all rfl) : JE X E m .sh (.Compare a [op, op'] [b, c] pos) (fChain g g' fa fb fc) := ⟨PEimp (pe_chain ho ho' ha.pe hb.pe hc.pe hm) fun σ H Q h => chain_ok hr hr' h⟩
theorem jt_chain {op op' : CmpOp} {r r' : R2} {g g' : D → D → Res D} (ho : OpR X (compareOp op) r) (ho' : OpR X (compareOp op') r') (hr : OpD X.K X.mg .sh r g) (hr' : OpD X.K X.mg .sh r' g') (ha : JE X E m .sh a fa) (hb : JE X E m .sh b fb) (hc : JE X E m .sh c fc)
    (hm : lastMarks [op, op'] [b, c] = false := by with_unfolding_all rfl) : JT X E m (.Compare a [op, op'] [b, c] pos) (fB (fChain g g' fa fb fc)) := ⟨PTimp (pt_chain ho ho' ha.pe hb.pe hc.pe hm) fun σ H Q h => tT_of (fun σ H Q h => chain_ok hr hr' h) h⟩
def dList : D → Res D
  | .lst xs => .ok (.lst xs)
  | .frl xs => .ok (.lst xs)
  | .tup xs => .ok (.lst xs)
  | _ => .er
def dTuple : D → Res D
  | .lst xs => .ok (.tup xs)
  | .frl xs => .ok (.tup xs)
  | .tup xs => .ok (.tup xs)
  | _ => .er
theorem je_tuple (hm : X.mg "tuple" = none) (ha : JA X E m [e] fs) (hg : Gl X "tuple" := by rfl) (he : starEach [e] X.env = (false, eval e X.env) :: starEach [] X.env := by rfl) : JE X E m .sh (.Call (.Name "tuple" p) [e] [] pos) (fOn (on1 dTuple) fs) :=
  je_callTy call_tuple_of (calld1 fun E S H x d Q hs rx hp => by
    cases d with
    | lst xs =>
      obtain ⟨a, vs, rfl, ha, rv⟩ := rx.of_lst
      exact ⟨a, vs, rfl, .inl ⟨.inl (.inl (hs _ _ ha)), fun l hl => Post.tup hp hs rv hl⟩⟩
    | frl xs =>
      obtain ⟨a, vs, rfl, ha, rv⟩ := rx.of_frl
      exact ⟨a, vs, rfl, .inl ⟨same_l hs ha, fun l hl => Post.tup hp hs rv hl⟩⟩
    | tup xs =>
      have hp : Post X.K X.mg E S H .sh (.ok (.tup xs)) Q := hp
      have hv := hp.val hs rx
      obtain ⟨a, vs, rfl, ha, rv⟩ := rx.of_tup
      exact ⟨a, vs, rfl, .inr ⟨same_t hs ha, hv⟩⟩
    | _ => exact hp.elim) hm ha hg (by decide +kernel) (by decide) (by decide) he (by rfl)
def rgnOk (i j : Int) : Bool := stuck (rngOk i j = true ∧ (j - i).toNat ≤ 16777216)
def fTupleR1 (f : Env → Res D) : Env → Res D := fun ρ => (f ρ).bind fun d => match d with
  | .int j => if rgnOk 0 j = true then .ok (.tup (rng 0 (j - 0).toNat)) else .er
  | _ => .er
def intsD : List D → Option (List Int)
  | [] => some []
  | .int i :: r => match intsD r with
    | some ns => some (i :: ns)
    | none => none
  | _ => none
def boolsD : List D → Option (List Bool)
  | [] => some []
  | .bl i :: r => match boolsD r with
    | some ns => some (i :: ns)
    | none => none
  | _ => none
theorem intsD_ok : ∀ {ds : List D} {ns : List Int}, intsD ds = some ns → ds = ns.map D.int
  | [], ns, h => by cases h; rfl
  | .int i :: r, ns, h => by
    simp only [intsD] at h
    split at h
    · rename_i ms e
      cases h
      rw [intsD_ok e]
      rfl
    · cases h
  | .non :: r, ns, h => by cases h
  | .bl _ :: r, ns, h => by cases h
  | .str _ :: r, ns, h => by cases h
  | .lst _ :: r, ns, h => by cases h
  | .tup _ :: r, ns, h => by cases h
  | .frl _ :: r, ns, h => by cases h
  | .dic _ _ :: r, ns, h => by cases h
  | .dit _ _ :: r, ns, h => by cases h
  | .obj _ _ _ :: r, ns, h => by cases h
theorem boolsD_ok : ∀ {ds : List D} {ns : List Bool}, boolsD ds = some ns → ds = ns.map D.bl
  | [], ns, h => by cases h; rfl
  | .bl i :: r, ns, h => by
    simp only [boolsD] at h
    split at h
    · rename_i ms e
      cases h
      rw [boolsD_ok e]
      rfl
    · cases h
  | .non :: r, ns, h => by cases h
  | .int _ :: r, ns, h => by cases h
  | .str _ :: r, ns, h => by cases h
  | .lst _ :: r, ns, h => by cases h
  | .tup _ :: r, ns, h => by cases h
  | .frl _ :: r, ns, h => by cases h
  | .dic _ _ :: r, ns, h => by cases h
  | .dit _ _ :: r, ns, h => by cases h
  | .obj _ _ _ :: r, ns, h => by cases h
@[simp] theorem intsD_map : ∀ ns : List Int, intsD (ns.map D.int) = some ns
  | [] => rfl
  | n :: ns => by simp only [List.map_cons, intsD, intsD_map ns]
@[simp] theorem boolsD_map : ∀ ns : List Bool, boolsD (ns.map D.bl) = some ns
  | [] => rfl
  | n :: ns => by simp only [List.map_cons, boolsD, boolsD_map ns]
def dSum : D → Res D
  | .lst xs => match intsD xs with
    | some ns => .ok (.int ns.sum)
    | none => .er
  | _ => .er
def dAll : D → Res D
  | .lst xs => match boolsD xs with
    | some ns => .ok (.bl (ns.all id))
    | none => .er
  | _ => .er
theorem je_sum (hm : X.mg "sum" = none) (ha : JA X E m [e] fs) (hc : X.calm = true := by rfl) (hg : Gl X "sum" := by rfl) (he : starEach [e] X.env = (false, eval e X.env) :: starEach [] X.env := by rfl) : JE X E m .sh (.Call (.Name "sum" p) [e] [] pos) (fOn (on1 dSum) fs) :=
  je_callB (cr_sum hc) (calld1 fun E S H x d Q hs rx hp => by
    cases d with
    | lst xs =>
      obtain ⟨a, vs, rfl, ha, rv⟩ := rx.of_lst
      simp only [dSum] at hp
      split at hp
      · rename_i ns en
        rw [intsD_ok en] at rv
        exact ⟨a, ns, rfl, by rw [← rv.ints]; exact .inl (.inl (hs _ _ ha)), hp.val hs (.int _)⟩
      · exact hp.elim
    | _ => exact (show False from hp).elim) hm ha hg (by decide +kernel) (by decide) (by decide) he (by rfl)
theorem je_all (hm : X.mg "all" = none) (ha : JA X E m [e] fs) (hc : X.calm = true := by rfl) (hg : Gl X "all" := by rfl) (he : starEach [e] X.env = (false, eval e X.env) :: starEach [] X.env := by rfl) : JE X E m .sh (.Call (.Name "all" p) [e] [] pos) (fOn (on1 dAll) fs) :=
  je_callB (cr_all hc) (calld1 fun E S H x d Q hs rx hp => by
    cases d with
    | lst xs =>
      obtain ⟨a, vs, rfl, ha, rv⟩ := rx.of_lst
      simp only [dAll] at hp
      split at hp
      · rename_i ns en
        rw [boolsD_ok en] at rv
        exact ⟨a, ns, rfl, by rw [← rv.bls]; exact .inl (.inl (hs _ _ ha)), hp.val hs (.bl _)⟩
      · exact hp.elim
    | _ => exact (show False from hp).elim) hm ha hg (by decide +kernel) (by decide) (by decide) he (by rfl)
def repOk (n : Nat) (k : Int) : Bool := stuck ((-(9223372036854775808) ≤ k ∧ k < 9223372036854775808) ∧ szOk (n * k.toNat) = true)
def dRep : D → D → Res D
  | .lst xs, .int k => if repOk xs.length k = true then .ok (.lst (List.replicate k.toNat xs).flatten) else .er
  | _, _ => .er
theorem RepL.rep {K : PySem.W.Frag} {mg : Str → Option Value} {S : Hp} {vs : List V} {ds : List D} (r : RepL K mg S vs ds) : ∀ k : Nat, RepL K mg S (List.replicate k vs).flatten (List.replicate k ds).flatten
  | 0 => .nil
  | k + 1 => by
    rw [List.replicate_succ, List.replicate_succ, List.flatten_cons, List.flatten_cons]
    exact r.append (r.rep k)
theorem je_rep (ha : JE X E m .sh a fa) (hb : JE X E m .sh b fb) (hmd : md = .sh ∨ md = .ow := by first | exact .inl rfl | exact .inr rfl) : JE X E m md (.BinOp a .Mult b pos) (f2 dRep fa fb) := je_op op_rep (fun E S H x y dx dy Q hs rx ry h => by
  cases dx with
  | lst xs =>
    cases dy with
    | int k =>
      obtain ⟨hz, h⟩ := Post.of_if h
      have hz := stuck_iff.mp hz
      have h12 := hz.1
      obtain ⟨l, vs, rfl, hl, rv⟩ := rx.of_lst
      cases ry
      have h1 := h12.1
      have h2 := h12.2
      exact ⟨l, k, vs, rfl, rfl, hs _ _ hl, by omega, by omega, by rw [rv.len]; exact szOk_ok hz.2, fun p hp => Post.list hmd h hs (rv.rep _) hp⟩
    | _ => exact h.elim
  | _ => exact h.elim) ha hb
end
end Da
namespace Da
open PySem PySem.Spec L2
section
variable {P : Program} {w : World} {K : PySem.W.Frag} {mg : Str → Option Value} {base h : Heap}
theorem defAt_mk {x qual : Str} {st : Stmt} {ps : List Str} {f : Addr} {oc : Value} {od an : Option Addr} {osl : Array (Option Value)} {kV doc pm cdv ct : Value} (X : K.In h) (G : h.Ns mainGlobals mg) (a : PySem.W.nsIn K mainGlobals x = some (some (.ref f)))
    (l : K.lookup f = some ⟨oc, od, .func (PySem.W.fnOf x qual (defArgs st) (defBody st) (defScope st) .none kV doc pm an cdv ct), osl⟩) (c : PySem.W.codeIn K cdv qual = true) (k : PySem.W.keepIn K (.ref f) = true)
    (hb : ∀ (kV doc pm : Value) (an : Option Addr) (cdv ct : Value) (us : List Value), us.length = ps.length → bindArgs (PySem.W.fnOf x qual (defArgs st) (defBody st) (defScope st) .none kV doc pm an cdv ct) ⟨us, []⟩ = pure (ps.zip us)) : DefAt K mg x qual st ps := by
  have Fn := fun_mk (st := st) l c k
  exact ⟨f, _, Fn, Fn.binds hb, PySem.W.mg_of X G a⟩
/-- what the law is asked -/
def spLaw (K : PySem.W.Frag) : Sp := fun vs H Q _ => ∃ (a : Addr) (ns : List Int), vs = [.ref a] ∧ SqL K H a (ns.map V.int) ∧ ns.length ≤ 63 ∧ (∀ z ∈ ns, Builtin.Int.intBits z ≤ 1048576) ∧ ∀ H', Q (.bl true) H'
theorem law_imp {k : Nat} {f : Addr} {fd : FuncData} {g : List D → Res D} (G : FnOk P w K mg base (L2.CX P w) k f fd ["script"] (spD K mg 1 .sh g)) (hg : ∀ ns : List Int, ns.length ≤ 63 → (∀ z ∈ ns, Builtin.Int.intBits z ≤ 1048576) → g [.frl (ns.map D.int)] = .ok (.bl true)) :
    FnOk P w K mg base (L2.CX P w) k f fd ["script"] (spLaw K) := G.imp fun vs H Q E hsp => by
  obtain ⟨a, ns, rfl, hS, hl, hb, q⟩ := hsp
  refine ⟨H, [.frl (ns.map D.int)], Same.refl H, .cons (.frl hS (by rw [List.length_map, List.length_map]) (RepL.of_ints ns).at_) .nil, ?_⟩
  show Post K mg E H H .sh (chk 1 g [.frl (ns.map D.int)]) Q
  unfold chk
  rw [if_pos (by rfl), hg ns hl hb]
  intro v S' H' fp s' o _ _
  cases o.1
  exact q H'
theorem cx_none {H : Hp} {s s' : Shared} {e : Value} (h : L2.CX P w [] H s (fun _ _ _ => False) e s') : False := by
  obtain ⟨_, _, _, _, _, _, _, _, _, _, _, _, z⟩ := h
  exact z
theorem walk_end {l : PySem.W.OpenLaw} {q : Program} {loose : List Str} {XP : (Str → Option Value) → Heap → Prop} {YP : World → Heap → Prop} {d : DefRec} {K : Params → PySem.W.Frag} {k : Nat} (hn : l.most = some 63) (hdf : d.params.defaults = []) (hr : Room k callerA)
    (hY : ∀ (w : World) (h : Heap), YP w h → (K w.params).In h)
    (F : ∀ (w : World) (mg : Str → Option Value) (fa : Addr) (h : Heap), (K w.params).In h → h.Ns mainGlobals mg → mg d.name = some (.ref fa) →
      ∃ fd : FuncData, (∀ (s : Shared) (u : Value), BindsTo s fd ⟨[u], []⟩ [("script", u)]) ∧ ∀ base : Heap, (K w.params).In base → base.Ns mainGlobals mg → FnOk l.prog w (K w.params) mg base (L2.CX l.prog w) k fa fd ["script"] (spLaw (K w.params))) :
    PySem.W.WalkO q loose XP YP l.row.toRowW d [] (fun f vs => PySem.call f vs) :=
  L2.walk_ofB (n := 63) (k := k) (x := "script") (CX := fun w => L2.CX l.prog w) (sp := fun w => spLaw (K w.params)) hn (by decide) hdf hr hY F (fun w H a ns hl hb _ hS => ⟨a, ns, rfl, hS, hl, hb, fun _ => rfl⟩) fun w H s e s' z => cx_none z
end
end Da
namespace Da
open PySem PySem.Spec L2
section
variable {ρ : Env} {f fa fb fc : Env → Res D} {g : D → Res D} {g2 : D → D → Res D} {fs : Env → Res (List D)} {c ga gb : Env → Res Bool} {F G : FS} {d e : D} {i : Nat}
@[simp] theorem fC_ap : fC d ρ = .ok d := rfl
@[simp] theorem fV_nil : fV i [] = .er := by simp [fV]
@[simp] theorem fV_zero {x : D} {r : Env} : fV 0 (some x :: r) = .ok x := rfl
@[simp] theorem fV_succ {x : Option D} {r : Env} : fV (i + 1) (x :: r) = fV i r := by
  unfold fV
  rw [List.getElem?_cons_succ]
@[simp] theorem f1_ap : f1 g fa ρ = (fa ρ).bind g := rfl
@[simp] theorem f2_ap : f2 g2 fa fb ρ = (fa ρ).bind fun x => (fb ρ).bind fun y => g2 x y := rfl
@[simp] theorem fA0_ap : fA0 ρ = .ok [] := rfl
@[simp] theorem fA_ap : fA fa fs ρ = (fa ρ).bind fun x => (fs ρ).bind fun xs => .ok (x :: xs) := rfl
@[simp] theorem fOn_ap {g : List D → Res D} : fOn g fs ρ = (fs ρ).bind g := rfl
@[simp] theorem fB_ap : fB f ρ = (f ρ).bind asB := rfl
@[simp] theorem fTr_ap : fTr f ρ = (f ρ).bind trD := rfl
@[simp] theorem fBv_ap : fBv c ρ = (c ρ).bind fun b => .ok (.bl b) := rfl
@[simp] theorem asB_bl {b : Bool} : asB (.bl b) = .ok b := rfl
@[simp] theorem fAnd_ap : fAnd ga gb ρ = (ga ρ).bind fun c => if c = true then gb ρ else .ok false := rfl
@[simp] theorem fOr_ap : fOr ga gb ρ = (ga ρ).bind fun c => if c = true then .ok true else gb ρ := rfl
@[simp] theorem fNot_ap : fNot ga ρ = (ga ρ).bind fun c => .ok (!c) := rfl
@[simp] theorem fIf_ap : fIf c fa fb ρ = (c ρ).bind fun b => if b = true then fa ρ else fb ρ := rfl
@[simp] theorem fL_ap : fL f ρ = (f ρ).bind asL := rfl
@[simp] theorem fR1_ap : fR1 fs ρ = (fs ρ).bind gRng1 := rfl
@[simp] theorem fR2_ap : fR2 fs ρ = (fs ρ).bind gRng2 := rfl
@[simp] theorem asL_lst {xs : List D} : asL (.lst xs) = .ok xs := rfl
@[simp] theorem asL_frl {xs : List D} : asL (.frl xs) = .ok xs := rfl
@[simp] theorem asL_tup {xs : List D} : asL (.tup xs) = .ok xs := rfl
@[simp] theorem on1_ap {g : D → Res D} : on1 g [d] = g d := rfl
@[simp] theorem on2_ap {g : D → D → Res D} : on2 g [d, e] = g d e := rfl
@[simp] theorem gN_ap : gN i d ρ = .ok (ρ.set i (some d)) := rfl
@[simp] theorem fNext_ap : fNext ρ = .ok (.nx ρ) := rfl
@[simp] theorem fBrk_ap : fBrk ρ = .ok (.bk ρ) := rfl
@[simp] theorem fCnt_ap : fCnt ρ = .ok (.ct ρ) := rfl
@[simp] theorem fSet_ap : fSet i f ρ = lift (f ρ) ρ fun d => .ok (.nx (ρ.set i (some d))) := rfl
@[simp] theorem fRet_ap : fRet f ρ = lift (f ρ) ρ fun d => .ok (.rt d) := rfl
@[simp] theorem fRetN_ap : fRetN ρ = .ok (.rt .non) := rfl
@[simp] theorem fIfS_ap : fIfS c F G ρ = lift (c ρ) ρ fun b => if b = true then F ρ else G ρ := rfl
@[simp] theorem fDrop_ap : fDrop f ρ = lift (f ρ) ρ fun _ => .ok (.nx ρ) := rfl
@[simp] theorem fAug_ap : fAug i g2 f ρ = lift ((fV i ρ).bind fun x => (f ρ).bind fun y => g2 x y) ρ fun d => .ok (.nx (ρ.set i (some d))) := rfl
theorem fSeq_nx {ρ' : Env} (h : F ρ = .ok (.nx ρ')) : fSeq F G ρ = G ρ' := by unfold fSeq; rw [h]
/-- a block behind an end -/
def andThen (o : Res Fl) (G : FS) : Res Fl := match o with
  | .ok (.nx ρ') => G ρ'
  | o => o
@[simp] theorem fSeq_ap : fSeq F G ρ = andThen (F ρ) G := rfl
@[simp] theorem andThen_nx {ρ' : Env} : andThen (.ok (.nx ρ')) G = G ρ' := rfl
@[simp] theorem andThen_rt {d : D} : andThen (.ok (.rt d)) G = .ok (.rt d) := rfl
@[simp] theorem andThen_bk {ρ' : Env} : andThen (.ok (.bk ρ')) G = .ok (.bk ρ') := rfl
@[simp] theorem andThen_ct {ρ' : Env} : andThen (.ok (.ct ρ')) G = .ok (.ct ρ') := rfl
@[simp] theorem andThen_xc {c : Str} {fs : List (Str × D)} {ρ' : Env} : andThen (.ok (.xc c fs ρ')) G = .ok (.xc c fs ρ') := rfl
@[simp] theorem andThen_er : andThen .er G = .er := rfl
@[simp] theorem andThen_ite {p : Prop} [Decidable p] {a b : Res Fl} : andThen (if p then a else b) G = if p then andThen a G else andThen b G := by split <;> rfl
@[simp] theorem fApp_zero {xs : List D} {r : Env} : fApp 0 f (some (.lst xs) :: r) = lift (f (some (.lst xs) :: r)) (some (.lst xs) :: r) fun d => if szOk (xs.length + 1) = true then .ok (.nx (some (.lst (xs ++ [d])) :: r)) else .er := rfl
@[simp] theorem dAdd_int {i j : Int} : dAdd (.int i) (.int j) = .ok (.int (i + j)) := rfl
@[simp] theorem dSub_int {i j : Int} : dSub (.int i) (.int j) = .ok (.int (i - j)) := rfl
theorem dMul_int {i j : Int} (h : mulOk i j = true) : dMul (.int i) (.int j) = .ok (.int (i * j)) := if_pos h
@[simp] theorem dLt_int {i j : Int} : dLt (.int i) (.int j) = .ok (.bl (decide (i < j))) := rfl
@[simp] theorem dLe_int {i j : Int} : dLe (.int i) (.int j) = .ok (.bl (decide (i ≤ j))) := rfl
@[simp] theorem dGt_int {i j : Int} : dGt (.int i) (.int j) = .ok (.bl (decide (j < i))) := rfl
@[simp] theorem dGe_int {i j : Int} : dGe (.int i) (.int j) = .ok (.bl (decide (j ≤ i))) := rfl
@[simp] theorem dI_yes {g : Int → Int → Int} {i j : Int} : dI yes2 g (.int i) (.int j) = .ok (.int (g i j)) := rfl
@[simp] theorem dInt_int {i : Int} : dInt (.int i) = .ok (.int i) := rfl
@[simp] theorem dNeg_int {i : Int} : dNeg (.int i) = .ok (.int (-i)) := rfl
@[simp] theorem dAbs_int {i : Int} : dAbs (.int i) = .ok (.int (if i < 0 then -i else i)) := rfl
@[simp] theorem dMax2_int {i j : Int} : dMax2 (.int i) (.int j) = .ok (.int (if j > i then j else i)) := rfl
@[simp] theorem dMin2_int {i j : Int} : dMin2 (.int i) (.int j) = .ok (.int (if j < i then j else i)) := rfl
@[simp] theorem dLen_lst {xs : List D} : dLen (.lst xs) = .ok (.int xs.length) := rfl
@[simp] theorem dLen_frl {xs : List D} : dLen (.frl xs) = .ok (.int xs.length) := rfl
@[simp] theorem dLen_tup {xs : List D} : dLen (.tup xs) = .ok (.int xs.length) := rfl
@[simp] theorem eqD_int {i j : Int} : eqD (.int i) (.int j) = .ok (i == j) := by
  unfold eqD D.py
  simp only [SeqAt.shaped, PyData.canLay0, PyData.depth, PyData.eqv]
  rfl
@[simp] theorem dEq_int {i j : Int} : dEq (.int i) (.int j) = .ok (.bl (i == j)) := by unfold dEq; rw [eqD_int]; rfl
@[simp] theorem dNe_int {i j : Int} : dNe (.int i) (.int j) = .ok (.bl (!(i == j))) := by unfold dNe; rw [eqD_int]; rfl
theorem log2_lt {n k : Nat} (h : n < 2 ^ k) (hk : 0 < k) : n.log2 < k := PySem.Flt.log2_lt_of hk h
theorem mulOk_of {i j : Int} {a b : Nat} (hi : i.natAbs < 2 ^ a) (hj : j.natAbs < 2 ^ b) (ha : 0 < a := by decide) (hb : 0 < b := by decide) (hab : a + b ≤ 1000000 := by decide) : mulOk i j = true := mulOk_yes (wide_mul hi hj ha hb hab)
theorem mul64 {i j : Int} (hi : i.natAbs < 18446744073709551616) (hj : j.natAbs < 18446744073709551616) : mulOk i j = true := mulOk_of (a := 64) (b := 64) hi hj
/-- the greatest divisor's bound, never reckoned out -/
def Lim : Nat := 2 ^ 9000
theorem lt_lim {n : Nat} (h : n < 18446744073709551616) : n < Lim := Nat.lt_of_lt_of_le (show n < 2 ^ 64 from h) (Nat.pow_le_pow_right (by decide) (by decide))
theorem dDiv_pos {i j : Int} (h : 0 < j) (h9 : j.natAbs < Lim) : dDiv (.int i) (.int j) = .ok (.int (i / j)) := by
  show (if divOk i j = true then Res.ok (D.int (i.fdiv j)) else .er) = _
  rw [if_pos (by
    exact stuck_iff.mpr ⟨by omega, log2_lt h9 (by decide)⟩), Int.fdiv_eq_ediv_of_nonneg i (by omega)]
theorem dDiv_64 {i j : Int} (h : 0 < j) (h9 : j < 18446744073709551616) : dDiv (.int i) (.int j) = .ok (.int (i / j)) := dDiv_pos h (lt_lim (by omega))
theorem dMod_pos {i j : Int} (h : 0 < j) : dMod (.int i) (.int j) = .ok (.int (i % j)) := by
  show (if modOk i j = true then Res.ok (D.int (i.fmod j)) else .er) = _
  rw [if_pos (show modOk i j = true from decide_eq_true (by omega)), Int.fmod_eq_emod_of_nonneg i (by omega)]
theorem kb_NoneType_int : kitB "NoneType" "int" = some false := by decide +kernel
theorem kb_bool_int : kitB "bool" "int" = some true := by decide +kernel
theorem kb_int_int : kitB "int" "int" = some true := by decide +kernel
theorem kb_str_int : kitB "str" "int" = some false := by decide +kernel
theorem kb_list_int : kitB "list" "int" = some false := by decide +kernel
theorem kb_tuple_int : kitB "tuple" "int" = some false := by decide +kernel
theorem kb_dict_int : kitB "dict" "int" = some false := by decide +kernel
@[simp] theorem isTy_int_non : isTy "int" .non = .ok false := by unfold isTy tyNm; simp only [kb_NoneType_int]
@[simp] theorem isTy_int_bl {b : Bool} : isTy "int" (.bl b) = .ok true := by unfold isTy tyNm; simp only [kb_bool_int]
@[simp] theorem isTy_int_int {b : Int} : isTy "int" (.int b) = .ok true := by unfold isTy tyNm; simp only [kb_int_int]
@[simp] theorem isTy_int_str {b : Str} : isTy "int" (.str b) = .ok false := by unfold isTy tyNm; simp only [kb_str_int]
@[simp] theorem isTy_int_lst {b : List D} : isTy "int" (.lst b) = .ok false := by unfold isTy tyNm; simp only [kb_list_int]
@[simp] theorem isTy_int_frl {b : List D} : isTy "int" (.frl b) = .ok false := by unfold isTy tyNm; simp only [kb_list_int]
@[simp] theorem isTy_int_tup {b : List D} : isTy "int" (.tup b) = .ok false := by unfold isTy tyNm; simp only [kb_tuple_int]
@[simp] theorem isTy_int_dic {k : List Key} {b : List D} : isTy "int" (.dic k b) = .ok false := by unfold isTy tyNm; simp only [kb_dict_int]
@[simp] theorem isTy_int_dit {k : List (List Key)} {b : List D} : isTy "int" (.dit k b) = .ok false := by unfold isTy tyNm; simp only [kb_dict_int]
theorem kb_NoneType_bool : kitB "NoneType" "bool" = some false := by decide +kernel
theorem kb_bool_bool : kitB "bool" "bool" = some true := by decide +kernel
theorem kb_int_bool : kitB "int" "bool" = some false := by decide +kernel
theorem kb_str_bool : kitB "str" "bool" = some false := by decide +kernel
theorem kb_list_bool : kitB "list" "bool" = some false := by decide +kernel
theorem kb_tuple_bool : kitB "tuple" "bool" = some false := by decide +kernel
theorem kb_dict_bool : kitB "dict" "bool" = some false := by decide +kernel
@[simp] theorem isTy_bool_non : isTy "bool" .non = .ok false := by unfold isTy tyNm; simp only [kb_NoneType_bool]
@[simp] theorem isTy_bool_bl {b : Bool} : isTy "bool" (.bl b) = .ok true := by unfold isTy tyNm; simp only [kb_bool_bool]
@[simp] theorem isTy_bool_int {b : Int} : isTy "bool" (.int b) = .ok false := by unfold isTy tyNm; simp only [kb_int_bool]
@[simp] theorem isTy_bool_str {b : Str} : isTy "bool" (.str b) = .ok false := by unfold isTy tyNm; simp only [kb_str_bool]
@[simp] theorem isTy_bool_lst {b : List D} : isTy "bool" (.lst b) = .ok false := by unfold isTy tyNm; simp only [kb_list_bool]
@[simp] theorem isTy_bool_frl {b : List D} : isTy "bool" (.frl b) = .ok false := by unfold isTy tyNm; simp only [kb_list_bool]
@[simp] theorem isTy_bool_tup {b : List D} : isTy "bool" (.tup b) = .ok false := by unfold isTy tyNm; simp only [kb_tuple_bool]
@[simp] theorem isTy_bool_dic {k : List Key} {b : List D} : isTy "bool" (.dic k b) = .ok false := by unfold isTy tyNm; simp only [kb_dict_bool]
@[simp] theorem isTy_bool_dit {k : List (List Key)} {b : List D} : isTy "bool" (.dit k b) = .ok false := by unfold isTy tyNm; simp only [kb_dict_bool]
theorem kb_NoneType_list : kitB "NoneType" "list" = some false := by decide +kernel
theorem kb_bool_list : kitB "bool" "list" = some false := by decide +kernel
theorem kb_int_list : kitB "int" "list" = some false := by decide +kernel
theorem kb_str_list : kitB "str" "list" = some false := by decide +kernel
theorem kb_list_list : kitB "list" "list" = some true := by decide +kernel
theorem kb_tuple_list : kitB "tuple" "list" = some false := by decide +kernel
theorem kb_dict_list : kitB "dict" "list" = some false := by decide +kernel
@[simp] theorem isTy_list_non : isTy "list" .non = .ok false := by unfold isTy tyNm; simp only [kb_NoneType_list]
@[simp] theorem isTy_list_bl {b : Bool} : isTy "list" (.bl b) = .ok false := by unfold isTy tyNm; simp only [kb_bool_list]
@[simp] theorem isTy_list_int {b : Int} : isTy "list" (.int b) = .ok false := by unfold isTy tyNm; simp only [kb_int_list]
@[simp] theorem isTy_list_str {b : Str} : isTy "list" (.str b) = .ok false := by unfold isTy tyNm; simp only [kb_str_list]
@[simp] theorem isTy_list_lst {b : List D} : isTy "list" (.lst b) = .ok true := by unfold isTy tyNm; simp only [kb_list_list]
@[simp] theorem isTy_list_frl {b : List D} : isTy "list" (.frl b) = .ok true := by unfold isTy tyNm; simp only [kb_list_list]
@[simp] theorem isTy_list_tup {b : List D} : isTy "list" (.tup b) = .ok false := by unfold isTy tyNm; simp only [kb_tuple_list]
@[simp] theorem isTy_list_dic {k : List Key} {b : List D} : isTy "list" (.dic k b) = .ok false := by unfold isTy tyNm; simp only [kb_dict_list]
@[simp] theorem isTy_list_dit {k : List (List Key)} {b : List D} : isTy "list" (.dit k b) = .ok false := by unfold isTy tyNm; simp only [kb_dict_list]
theorem kb_NoneType_tuple : kitB "NoneType" "tuple" = some false := by decide +kernel
theorem kb_bool_tuple : kitB "bool" "tuple" = some false := by decide +kernel
theorem kb_int_tuple : kitB "int" "tuple" = some false := by decide +kernel
theorem kb_str_tuple : kitB "str" "tuple" = some false := by decide +kernel
theorem kb_list_tuple : kitB "list" "tuple" = some false := by decide +kernel
theorem kb_tuple_tuple : kitB "tuple" "tuple" = some true := by decide +kernel
theorem kb_dict_tuple : kitB "dict" "tuple" = some false := by decide +kernel
@[simp] theorem isTy_tuple_non : isTy "tuple" .non = .ok false := by unfold isTy tyNm; simp only [kb_NoneType_tuple]
@[simp] theorem isTy_tuple_bl {b : Bool} : isTy "tuple" (.bl b) = .ok false := by unfold isTy tyNm; simp only [kb_bool_tuple]
@[simp] theorem isTy_tuple_int {b : Int} : isTy "tuple" (.int b) = .ok false := by unfold isTy tyNm; simp only [kb_int_tuple]
@[simp] theorem isTy_tuple_str {b : Str} : isTy "tuple" (.str b) = .ok false := by unfold isTy tyNm; simp only [kb_str_tuple]
@[simp] theorem isTy_tuple_lst {b : List D} : isTy "tuple" (.lst b) = .ok false := by unfold isTy tyNm; simp only [kb_list_tuple]
@[simp] theorem isTy_tuple_frl {b : List D} : isTy "tuple" (.frl b) = .ok false := by unfold isTy tyNm; simp only [kb_list_tuple]
@[simp] theorem isTy_tuple_tup {b : List D} : isTy "tuple" (.tup b) = .ok true := by unfold isTy tyNm; simp only [kb_tuple_tuple]
@[simp] theorem isTy_tuple_dic {k : List Key} {b : List D} : isTy "tuple" (.dic k b) = .ok false := by unfold isTy tyNm; simp only [kb_dict_tuple]
@[simp] theorem isTy_tuple_dit {k : List (List Key)} {b : List D} : isTy "tuple" (.dit k b) = .ok false := by unfold isTy tyNm; simp only [kb_dict_tuple]
theorem kb_NoneType_str : kitB "NoneType" "str" = some false := by decide +kernel
theorem kb_bool_str : kitB "bool" "str" = some false := by decide +kernel
theorem kb_int_str : kitB "int" "str" = some false := by decide +kernel
theorem kb_str_str : kitB "str" "str" = some true := by decide +kernel
theorem kb_list_str : kitB "list" "str" = some false := by decide +kernel
theorem kb_tuple_str : kitB "tuple" "str" = some false := by decide +kernel
theorem kb_dict_str : kitB "dict" "str" = some false := by decide +kernel
@[simp] theorem isTy_str_non : isTy "str" .non = .ok false := by unfold isTy tyNm; simp only [kb_NoneType_str]
@[simp] theorem isTy_str_bl {b : Bool} : isTy "str" (.bl b) = .ok false := by unfold isTy tyNm; simp only [kb_bool_str]
@[simp] theorem isTy_str_int {b : Int} : isTy "str" (.int b) = .ok false := by unfold isTy tyNm; simp only [kb_int_str]
@[simp] theorem isTy_str_str {b : Str} : isTy "str" (.str b) = .ok true := by unfold isTy tyNm; simp only [kb_str_str]
@[simp] theorem isTy_str_lst {b : List D} : isTy "str" (.lst b) = .ok false := by unfold isTy tyNm; simp only [kb_list_str]
@[simp] theorem isTy_str_frl {b : List D} : isTy "str" (.frl b) = .ok false := by unfold isTy tyNm; simp only [kb_list_str]
@[simp] theorem isTy_str_tup {b : List D} : isTy "str" (.tup b) = .ok false := by unfold isTy tyNm; simp only [kb_tuple_str]
@[simp] theorem isTy_str_dic {k : List Key} {b : List D} : isTy "str" (.dic k b) = .ok false := by unfold isTy tyNm; simp only [kb_dict_str]
@[simp] theorem isTy_str_dit {k : List (List Key)} {b : List D} : isTy "str" (.dit k b) = .ok false := by unfold isTy tyNm; simp only [kb_dict_str]
theorem kb_NoneType_dict : kitB "NoneType" "dict" = some false := by decide +kernel
theorem kb_bool_dict : kitB "bool" "dict" = some false := by decide +kernel
theorem kb_int_dict : kitB "int" "dict" = some false := by decide +kernel
theorem kb_str_dict : kitB "str" "dict" = some false := by decide +kernel
theorem kb_list_dict : kitB "list" "dict" = some false := by decide +kernel
theorem kb_tuple_dict : kitB "tuple" "dict" = some false := by decide +kernel
theorem kb_dict_dict : kitB "dict" "dict" = some true := by decide +kernel
@[simp] theorem isTy_dict_non : isTy "dict" .non = .ok false := by unfold isTy tyNm; simp only [kb_NoneType_dict]
@[simp] theorem isTy_dict_bl {b : Bool} : isTy "dict" (.bl b) = .ok false := by unfold isTy tyNm; simp only [kb_bool_dict]
@[simp] theorem isTy_dict_int {b : Int} : isTy "dict" (.int b) = .ok false := by unfold isTy tyNm; simp only [kb_int_dict]
@[simp] theorem isTy_dict_str {b : Str} : isTy "dict" (.str b) = .ok false := by unfold isTy tyNm; simp only [kb_str_dict]
@[simp] theorem isTy_dict_lst {b : List D} : isTy "dict" (.lst b) = .ok false := by unfold isTy tyNm; simp only [kb_list_dict]
@[simp] theorem isTy_dict_frl {b : List D} : isTy "dict" (.frl b) = .ok false := by unfold isTy tyNm; simp only [kb_list_dict]
@[simp] theorem isTy_dict_tup {b : List D} : isTy "dict" (.tup b) = .ok false := by unfold isTy tyNm; simp only [kb_tuple_dict]
@[simp] theorem isTy_dict_dic {k : List Key} {b : List D} : isTy "dict" (.dic k b) = .ok true := by unfold isTy tyNm; simp only [kb_dict_dict]
@[simp] theorem isTy_dict_dit {k : List (List Key)} {b : List D} : isTy "dict" (.dit k b) = .ok true := by unfold isTy tyNm; simp only [kb_dict_dict]
@[simp] theorem trD_bl {b : Bool} : trD (.bl b) = .ok b := rfl
@[simp] theorem trD_non : trD .non = .ok false := rfl
@[simp] theorem trD_int {i : Int} : trD (.int i) = .ok (i != 0) := rfl
@[simp] theorem trD_lst {xs : List D} : trD (.lst xs) = .ok (!xs.isEmpty) := rfl
@[simp] theorem trD_frl {xs : List D} : trD (.frl xs) = .ok (!xs.isEmpty) := rfl
@[simp] theorem trD_tup {xs : List D} : trD (.tup xs) = .ok (!xs.isEmpty) := rfl
@[simp] theorem dIsi_ap {T : String} : dIsi T d = (isTy T d).bind fun b => .ok (.bl b) := rfl
@[simp] theorem dIsi2_ap {T U : String} : dIsi2 T U d = (isTy T d).bind fun b => if b = true then .ok (.bl true) else (isTy U d).bind fun c => .ok (.bl c) := rfl
end
end Da
namespace Da
open PySem PySem.Spec L2
/-- a turn's end: N goes on, Q is wanted of what leaves the loop -/
def Turn (N : Env → Prop) (Q : Res Fl → Prop) : Res Fl → Prop
  | .ok (.nx ρ) => N ρ
  | .ok (.ct ρ) => N ρ
  | .ok (.bk ρ) => Q (.ok (.nx ρ))
  | .ok (.rt d) => Q (.ok (.rt d))
  | .ok (.xc c fs ρ) => Q (.ok (.xc c fs ρ))
  | .ex _ _ => False
  | .er => False
@[simp] theorem Turn_nx {N : Env → Prop} {Q : Res Fl → Prop} {ρ : Env} : Turn N Q (.ok (.nx ρ)) = N ρ := rfl
@[simp] theorem Turn_ct {N : Env → Prop} {Q : Res Fl → Prop} {ρ : Env} : Turn N Q (.ok (.ct ρ)) = N ρ := rfl
@[simp] theorem Turn_bk {N : Env → Prop} {Q : Res Fl → Prop} {ρ : Env} : Turn N Q (.ok (.bk ρ)) = Q (.ok (.nx ρ)) := rfl
@[simp] theorem Turn_rt {N : Env → Prop} {Q : Res Fl → Prop} {d : D} : Turn N Q (.ok (.rt d)) = Q (.ok (.rt d)) := rfl
@[simp] theorem rng_length {lo : Int} {n : Nat} : (rng lo n).length = n := by unfold rng; rw [List.length_map, List.length_range]
theorem fFor_ap {it : Env → Res (List D)} {g : D → Env → Res Env} {F : FS} {ρ : Env} {xs : List D} (h : it ρ = .ok xs) : fFor it g F ρ = forGo g F xs ρ := by unfold fFor; rw [h]; rfl
@[simp] theorem startE_one {n : Nat} {a : D} : startE (n + 1) [a] = some a :: List.replicate n none := by simp [startE]
@[simp] theorem startE_two {n : Nat} {a b : D} : startE (n + 2) [a, b] = some a :: some b :: List.replicate n none := by simp [startE]
@[simp] theorem chk_one {f : List D → Res D} {a : D} : chk 1 f [a] = f [a] := rfl
@[simp] theorem chk_two {f : List D → Res D} {a b : D} : chk 2 f [a, b] = f [a, b] := rfl
@[simp] theorem chk_three {f : List D → Res D} {a b c : D} : chk 3 f [a, b, c] = f [a, b, c] := rfl
@[simp] theorem chk_four {f : List D → Res D} {a b c d : D} : chk 4 f [a, b, c, d] = f [a, b, c, d] := rfl
@[simp] theorem gLstD_nil : gLstD [] = .ok (.lst []) := rfl
@[simp] theorem gLstD_cons {d : D} {ds : List D} (h : ds.length < 100000 := by decide) : gLstD (d :: ds) = .ok (.lst (d :: ds)) := by
  unfold gLstD
  rw [if_pos (by rw [List.length_cons]; omega)]
theorem dIx_lst {xs : List D} {i : Int} {d : D} (h : atI xs i = some d) : dIx (.lst xs) (.int i) = .ok d := by simp only [dIx, h]
theorem dIx_tup {xs : List D} {i : Int} {d : D} (h : atI xs i = some d) : dIx (.tup xs) (.int i) = .ok d := by simp only [dIx, h]
theorem dIx_frl {xs : List D} {i : Int} {d : D} (h : atI xs i = some d) : dIx (.frl xs) (.int i) = .ok d := by simp only [dIx, h]
end Da
namespace Da
open PySem PySem.Spec L2
def F_law_whole : FS := (fRet (fBv (fAnd (fB (f1 (dIsi "int") (fV 0))) (fB (fBv (fNot (fB (f1 (dIsi "bool") (fV 0)))))))))
def m_law_whole : List D → Res D := runF 1 .sh F_law_whole
def F_law_cell : FS := (fSeq (fIfS (fB (f2 dLt (fV 1) (fOn (on1 dLen) (fA (fV 0) fA0)))) (fRet (f2 dIx (fV 0) (fV 1))) fNext)
    (fSeq (fSet 2 (fC (.int 17)))
    (fSeq (fFor (fL (fV 0)) (gN 3) (fSet 2 (f2 dMod (fOn (on1 dInt) (fA (f2 dAdd (f2 dMul (fV 2) (fC (.int 31))) (f2 dMod (fOn (on1 dInt) (fA (fV 3) fA0)) (fC (.int 1000003)))) fA0)) (fC (.int 1000003)))))
    (fRet (f2 dMod (fOn (on1 dInt) (fA (f2 dMul (f2 dMul (f2 dAdd (fV 2) (fC (.int 7))) (f2 dAdd (fV 1) (fC (.int 3)))) (fC (.int 69621))) fA0)) (fC (.int 2147483647)))))))
def m_law_cell : List D → Res D := runF 4 .sh F_law_cell
def F_law_digits : FS := (fSeq (fSet 2 (fOn gLstD fA0))
    (fSeq (fSet 3 (fOn (on1 dInt) (fA (fV 0) fA0)))
    (fSeq (fIfS (fB (f2 dGe (fV 3) (f2 dPow (fC (.int 10)) (fC (.int 18))))) (fSeq (fSet 3 (f2 dSub (fV 3) (f2 dPow (fC (.int 10)) (fC (.int 18)))))
    (fSeq (fFor (fL (fV 1)) (gN 6) (fSeq (fApp 2 (f2 dMod (fOn (on1 dInt) (fA (fV 3) fA0)) (fV 6)))
    (fSet 3 (f2 dDiv (fOn (on1 dInt) (fA (fV 3) fA0)) (fV 6)))))
    (fRet (fV 2)))) fNext)
    (fSeq (fSet 4 (f2 dMod (fOn (on1 dInt) (fA (fV 3) fA0)) (fC (.int 2147483629))))
    (fSeq (fFor (fR1 (fA (fOn (on1 dLen) (fA (fV 1) fA0)) fA0)) (gN 5) (fSeq (fSet 4 (f2 dMod (fOn (on1 dInt) (fA (f2 dAdd (f2 dAdd (f2 dMul (fV 4) (fC (.int 48271))) (f2 dMul (fC (.int 974711)) (fV 5))) (fC (.int 12345))) fA0)) (fC (.int 2147483647))))
    (fSeq (fSet 7 (f2 dMod (fOn (on1 dInt) (fA (f2 dMul (fV 4) (f2 dAdd (f2 dDiv (fV 4) (fC (.int 65537))) (fC (.int 3)))) fA0)) (fC (.int 2147483629))))
    (fApp 2 (f2 dMod (f2 dDiv (fV 7) (fC (.int 19))) (f2 dIx (fV 1) (fV 5)))))))
    (fRet (fV 2)))))))
def m_law_digits : List D → Res D := runF 8 .ow F_law_digits
/-- a row of digits below the sizes -/
def Digs (sizes row : List Int) : Prop := row.length = sizes.length ∧ ∀ (i : Nat) (s r : Int), sizes[i]? = some s → row[i]? = some r → 0 ≤ r ∧ r < s
theorem Digs.snoc {sizes row : List Int} {n : Nat} {s r : Int} (h : Digs (sizes.take n) row) (hs : sizes[n]? = some s) (h0 : 0 ≤ r) (h1 : r < s) : Digs (sizes.take (n + 1)) (row ++ [r]) := by
  obtain ⟨hl, hd⟩ := h
  have hn := (List.getElem?_eq_some_iff.mp hs).1
  rw [List.length_take, Nat.min_eq_left (by omega)] at hl
  refine ⟨by rw [List.length_append, List.length_take, hl, Nat.min_eq_left (by omega)]; rfl, fun i s' r' e1 e2 => ?_⟩
  rw [List.getElem?_take] at e1
  split at e1
  · rename_i hi
    by_cases hin : i < n
    · exact hd i s' r' (by rw [List.getElem?_take, if_pos hin]; exact e1) (by rw [List.getElem?_append_left (by omega)] at e2; exact e2)
    · have : i = n := by omega
      subst this
      rw [hs] at e1
      cases e1
      rw [← hl, List.getElem?_concat_length] at e2
      cases e2
      exact ⟨h0, h1⟩
  · cases e1
end Da
namespace Da
open PySem PySem.Spec L2
/-- the data of the slots vs forgotten -/
def wipeD (ρ : Env) : List Nat → Env
  | [] => ρ
  | v :: vs => (wipeD ρ vs).set v none
/-- the items of a comprehension -/
def lcGo (g : D → Env → Res Env) (c : Env → Res Bool) (f : Env → Res D) (ρ : Env) : List D → Res (List D)
  | [] => .ok []
  | x :: xs => match g x ρ with
    | .ok ρ1 => (match c ρ1 with
      | .ok b => if b = true then (match f ρ1 with
        | .ok y => (match lcGo g c f ρ xs with
          | .ok ys => .ok (y :: ys)
          | _ => .er)
        | _ => .er) else lcGo g c f ρ xs
      | _ => .er)
    | _ => .er
def asLst (r : Res (List D)) : Res D := match r with
  | .ok ys => .ok (.lst ys)
  | _ => .er
def fLc (vs : List Nat) (it : Env → Res (List D)) (g : D → Env → Res Env) (c : Env → Res Bool) (f : Env → Res D) : Env → Res D := fun ρ => (it ρ).bind fun xs => if szOk xs.length = true then asLst (lcGo g c f (wipeD ρ vs) xs) else .er
def fYes : Env → Res Bool := fun _ => .ok true
def EF : WX := fun _ _ _ _ => False
theorem takesF {X : Cx} : Takes X EF := fun _ _ x => by
  obtain ⟨_, _, _, _, _, _, _, _, _, _, _, _, z⟩ := x
  exact z.2.2.2.2.elim
structure JTs (X : Cx) (E : WX) (m : Mds) (es : List Expr) (f : Env → Res Bool) : Prop where
  pt : PTs X es (tT X.K X.mg E m f)
section
variable {K : PySem.W.Frag} {mg : Str → Option Value} {m : Mds} {F : Nat → List Addr} {S S' H H' : Hp} {σ : L2.St} {ρ : Env}
theorem EnvF.wipe (h : EnvF K mg m F S H σ ρ) : ∀ vs : List Nat, EnvF K mg m F S H (L2.wipe σ vs) (wipeD ρ vs)
  | [] => h
  | v :: vs => by
    have ih := EnvF.wipe h vs
    have key : ∀ {j : Nat} {d : D}, ((wipeD ρ vs).set v none)[j]? = some (some d) → j ≠ v ∧ (wipeD ρ vs)[j]? = some (some d) := fun {j d} ej => by
      by_cases hj : v = j
      · subst hj
        rw [List.getElem?_set, if_pos rfl] at ej
        split at ej <;> cases ej
      · rw [List.getElem?_set_ne hj] at ej
        exact ⟨fun z => hj z.symm, ej⟩
    unfold L2.wipe wipeD
    refine ⟨by rw [List.length_set, List.length_set]; exact ih.len, fun i d e => ?_, fun i d e => ih.nd i d (key e).2, fun i j d e hij e1 e2 => ih.apart i j d e hij (key e1).2 (key e2).2⟩
    obtain ⟨w, e1, o⟩ := ih.at_ i d (key e).2
    exact ⟨w, by rw [List.getElem?_set_ne (Ne.symm (key e).1)]; exact e1, o⟩
theorem EnvM.wipe (h : EnvM K mg m S H σ ρ) (vs : List Nat) : EnvM K mg m S H (L2.wipe σ vs) (wipeD ρ vs) := by
  obtain ⟨hs, F, h⟩ := h
  exact ⟨hs, F, h.wipe vs⟩
/-- slots as of a body that nothing was before -/
theorem EnvM.bare (h : EnvM K mg m S H σ ρ) : ∃ F, StF K mg m (fun _ => none) (fun _ => none) S F σ ρ H := by
  obtain ⟨hs, F, h⟩ := h
  exact ⟨F, ⟨(fun _ _ e => nomatch e), (fun _ _ e => nomatch e), hs, (fun _ _ => .inr rfl)⟩, h, (fun _ _ _ _ _ => rfl)⟩
theorem wipe_at {vs : List Nat} {j : Nat} : (L2.wipe σ vs)[j]? = if j ∈ vs ∧ j < σ.length then some none else σ[j]? := by
  induction vs with
  | nil => simp [L2.wipe]
  | cons v vs ih =>
    unfold L2.wipe
    rw [List.getElem?_set, L2.wipe_length, ih]
    by_cases hv : v = j
    · subst hv
      by_cases hl : v < σ.length
      · simp [hl]
      · simp [hl]
    · have : ¬ j = v := fun z => hv z.symm
      simp [hv, this]
theorem wipe_eq {σ' : L2.St} {vs ts : List Nat} (hl : σ'.length = σ.length) (hj : ∀ j, j ∉ ts → σ'[j]? = (L2.wipe σ vs)[j]?) (hts : ∀ t ∈ ts, t ∈ vs) : L2.wipe σ' vs = L2.wipe σ vs := by
  refine List.ext_getElem? fun j => ?_
  rw [wipe_at, wipe_at, hl]
  by_cases hv : j ∈ vs
  · by_cases hlt : j < σ.length
    · rw [if_pos ⟨hv, hlt⟩, if_pos ⟨hv, hlt⟩]
    · rw [if_neg (fun z => hlt z.2), if_neg (fun z => hlt z.2), List.getElem?_eq_none (by omega), List.getElem?_eq_none (by omega)]
  · rw [if_neg (fun z => hv z.1), if_neg (fun z => hv z.1)]
    have := hj j (fun z => hv (hts j z))
    rw [wipe_at, if_neg (fun z => hv z.1)] at this
    exact this
/-- a hidden new object is written -/
theorem Step.write {p : Addr} {o : HO} (st : Step S H S' H') (hs : S' p = none) (hp : H p = none) : Step S H S' (upd H' p o) := by
  refine ⟨fun b x e => ?_, st.ss, fun b x e => ?_, st.new⟩
  · rw [upd_ne (ne_of_none e hp)]
    exact st.hh b x e
  · rw [upd_ne (ne_of_none e hs)]
    exact st.sub b x e
end
section
variable {K : PySem.W.Frag} {mg : Str → Option Value} {E : WX} {m : Mds} {it : Env → Res (List D)} {g : D → Env → Res Env} {c : Env → Res Bool} {f : Env → Res D} {ts vs : List Nat}
/-- the list under way: its items so far, what is still to come -/
def LcW (K : PySem.W.Frag) (mg : Str → Option Value) (g : D → Env → Res Env) (c : Env → Res Bool) (f : Env → Res D) (ρ : Env) (xs ys : List D) (D0 : Addr) (S1 H1 : Hp) (i : Nat) (H : Hp) : Prop :=
  ∃ S2 ws ds rest, Step S1 H1 S2 H ∧ S2 D0 = none ∧ H D0 = some (.lst ws) ∧ RepL K mg S2 ws ds ∧ lcGo g c f ρ (xs.drop i) = .ok rest ∧ ys = ds ++ rest ∧ ds.length ≤ i
theorem lc_ok {σ : L2.St} {H : Hp} {Q : VK} (hts : ∀ t ∈ ts, t ∈ vs) (h : tE K mg E m .ow (fLc vs it g c f) σ H Q) :
    tLc (tI K mg E m it) (tGD K mg m ts g) (tT K mg EF m c) (tE K mg EF m .sh f) vs σ H Q := by
  obtain ⟨S, ρ, hm, hp⟩ := h
  refine ⟨S, ρ, hm, (Post.bind hp).imp fun xs S1 H1 s1 k J w D0 hD => ?_⟩
  split at k
  · rename_i hz
    have hz := szOk_ok hz
    unfold asLst at k
    split at k
    · rename_i ys eg
      refine ⟨fun i n H => n = xs.length - i ∧ i ≤ xs.length ∧ LcW K mg g c f (wipeD ρ vs) xs ys D0 S1 H1 i H, ⟨xs.length, by simp, Nat.zero_le _, S1, [], [], ys, Step.hid s1.sub hD, s1.sub.free hD, upd_same, .nil, eg, rfl, Nat.le_refl _⟩, ?_⟩
      rintro i n H2 ⟨rfl, hi, S2, ws, ds, rest, st2, hs2, hd2, rv, el, ey, hn⟩
      by_cases hlt : i < xs.length
      · obtain ⟨hgo, hyl⟩ := w.go i xs[i] S2 H2 (List.getElem?_eq_getElem hlt) st2.ss st2.sub
        refine .inr ⟨hgo, LcW K mg g c f (wipeD ρ vs) xs ys D0 S1 H1 (i + 1), fun H' z => ⟨xs.length - (i + 1), by omega, rfl, hlt, z⟩, fun x H3 y => ?_⟩
        obtain ⟨S3, s3, r3⟩ := hyl x H3 y
        rw [List.drop_eq_getElem_cons hlt] at el
        unfold lcGo at el
        split at el
        · rename_i ρ1 eg1
          have st3 := st2.trans s3
          obtain ⟨F, stF⟩ := (((hm.step s1).step st3).wipe vs).bare
          refine ⟨_, _, S3, F, wipeD ρ vs, xs[i], stF, r3, ?_⟩
          rw [eg1]
          intro σ4 S4 F4 H4 st4 s4 hfr
          refine ⟨wipe_eq (by rw [hfr.1, L2.wipe_length]) hfr.2 hts, S4, ρ1, st4.envM, ?_⟩
          split at el
          · rename_i b ec
            rw [ec]
            intro S5 H5 s5
            have a5 := (s3.trans s4).trans s5
            have st5 := st2.trans a5
            have hd5 := a5.hh _ _ hd2
            have hs5 := a5.out hs2 hd2
            cases b with
            | false =>
              rw [if_neg (by decide)] at el
              show LcW K mg g c f (wipeD ρ vs) xs ys D0 S1 H1 (i + 1) H5
              exact ⟨S5, ws, ds, rest, st5, hs5, hd5, rv.mono a5.ss, el, ey, by omega⟩
            | true =>
              rw [if_pos rfl] at el
              show tE K mg EF m Md.sh f σ4 H5 _
              split at el
              · rename_i y' ef
                refine ⟨S5, ρ1, (st4.envM).step s5, ?_⟩
                rw [ef]
                intro v S6 H6 fp s6 o _ _
                have a6 := a5.trans s6
                split at el
                · rename_i rest' er
                  cases el
                  refine ⟨ws, a6.hh _ _ hd2, by rw [rv.len]; omega, S6, ws ++ [v], ds ++ [y'], rest', (st2.trans a6).write (a6.out hs2 hd2) hD, a6.out hs2 hd2, upd_same, (rv.mono a6.ss).snoc o.1, er, by rw [ey]; simp, by rw [List.length_append]; simp; omega⟩
                · cases el
              · cases el
          · cases el
        · cases el
      · have e : i = xs.length := by omega
        subst e
        rw [List.drop_length] at el
        cases el
        rw [List.append_nil] at ey
        subst ey
        exact .inl ⟨w.stop S2 H2 st2.ss st2.sub, k _ S2 H2 [D0] st2 ⟨D0, ws, _, rfl, rfl, rfl, hs2, hd2, rv⟩ (by simp) (fun a z => by
          have : a = D0 := by simpa using z
          rw [this]; exact hD)⟩
    · exact k.elim
  · exact k.elim
end
section
variable {X : Cx} {E : WX} {L : Lp} {m : Mds} {ts : List Nat} {N0 ps0 : List Str} {sc0 : Scope} {elt tg iter e : Expr} {ifs : List Expr} {scope : Scope} {own : List (Str × Nat)} {pos : Pos} {it : Env → Res (List D)} {g : D → Env → Res Env} {c : Env → Res Bool} {f : Env → Res D}
theorem jts_nil : JTs X E m [] fYes := ⟨⟨fun pins s σ H Q I q => pts_nil.run pins s σ H Q I (by
  obtain ⟨S, ρ, hm, hp⟩ := q
  exact hp S H (Step.refl hm.1))⟩⟩
theorem je_lc (Sc : FnScope N0 ps0 sc0) (own : List (Str × Nat)) (hi : JI X E m tg iter it)
    (hg : ∀ (s : Shared) (H : Hp) (C : Addr) (cl : List (Str × Addr)) (fp : List Addr), JG (X.blk s H scope (compEnvC scope cl C X.env) fp) m ts tg g) (ht : ∀ (s : Shared) (H : Hp) (C : Addr) (cl : List (Str × Addr)) (fp : List Addr), JTs (X.blk s H scope (compEnvC scope cl C X.env) fp) EF m ifs c)
    (he : ∀ (s : Shared) (H : Hp) (C : Addr) (cl : List (Str × Addr)) (fp : List Addr), JE (X.blk s H scope (compEnvC scope cl C X.env) fp) EF m .sh elt f) (hc : X.calm = true := by rfl) (hN0 : X.N = N0 := by rfl) (hsc : X.env.scope = sc0 := by rfl) (ok : blkC N0 sc0 scope own = true := by decide +kernel) (hts : ∀ t ∈ ts, t ∈ own.map (·.2) := by decide)
    (hs : ∀ x, foldedSetIterable iter X.env x = pure x := by intro _; rfl) : JE X E m .ow (.ListComp elt [⟨tg, iter, ifs, 0⟩] scope pos) (fLc (own.map (·.2)) it g c f) :=
  ⟨PEimp (pe_lc (g := tGD X.K X.mg m ts g) (tt := tT X.K X.mg EF m c) (te := tE X.K X.mg EF m .sh f) hc (by rw [hN0]; exact Sc.nd) hi.pi (blkOk_by (by rw [hN0, hsc]; exact ok)) (fun s H C cl fp => (hg s H C cl fp).pg) (fun s H C cl fp => (ht s H C cl fp).pt) (fun s H C cl fp => (he s H C cl fp).pe) hs) fun σ H Q h => lc_ok hts h⟩
/-- .. within another comprehension's block -/
theorem je_lcB {scO : Scope} (Sc : FnScope N0 ps0 sc0) (own : List (Str × Nat)) (hi : JI X E m tg iter it)
    (hg : ∀ (s : Shared) (H : Hp) (C : Addr) (cl : List (Str × Addr)) (fp : List Addr), JG (X.blk s H scope (compEnvC scope cl C X.env) fp) m ts tg g) (ht : ∀ (s : Shared) (H : Hp) (C : Addr) (cl : List (Str × Addr)) (fp : List Addr), JTs (X.blk s H scope (compEnvC scope cl C X.env) fp) EF m ifs c)
    (he : ∀ (s : Shared) (H : Hp) (C : Addr) (cl : List (Str × Addr)) (fp : List Addr), JE (X.blk s H scope (compEnvC scope cl C X.env) fp) EF m .sh elt f) (hc : X.calm = true := by rfl) (hN0 : X.N = N0 := by rfl) (hsc : X.env.scope = relS scO sc0 := by rfl) (ok : blkC N0 (relS scO sc0) scope own = true := by decide +kernel) (hts : ∀ t ∈ ts, t ∈ own.map (·.2) := by decide)
    (hs : ∀ x, foldedSetIterable iter X.env x = pure x := by intro _; rfl) : JE X E m .ow (.ListComp elt [⟨tg, iter, ifs, 0⟩] scope pos) (fLc (own.map (·.2)) it g c f) :=
  ⟨PEimp (pe_lc (g := tGD X.K X.mg m ts g) (tt := tT X.K X.mg EF m c) (te := tE X.K X.mg EF m .sh f) hc (by rw [hN0]; exact Sc.nd) hi.pi (blkOk_by (by rw [hN0, hsc]; exact ok)) (fun s H C cl fp => (hg s H C cl fp).pg) (fun s H C cl fp => (ht s H C cl fp).pt) (fun s H C cl fp => (he s H C cl fp).pe) hs) fun σ H Q h => lc_ok hts h⟩
theorem js_setLc (i : Nat) {y : Str} {py spos : Pos} (Sc : FnScope N0 ps0 sc0) (own : List (Str × Nat)) (hi : JI X E m tg iter it)
    (hg : ∀ (s : Shared) (H : Hp) (C : Addr) (cl : List (Str × Addr)) (fp : List Addr), JG (X.blk s H scope (compEnvC scope cl C X.env) fp) m ts tg g) (ht : ∀ (s : Shared) (H : Hp) (C : Addr) (cl : List (Str × Addr)) (fp : List Addr), JTs (X.blk s H scope (compEnvC scope cl C X.env) fp) EF m ifs c)
    (he : ∀ (s : Shared) (H : Hp) (C : Addr) (cl : List (Str × Addr)) (fp : List Addr), JE (X.blk s H scope (compEnvC scope cl C X.env) fp) EF m .sh elt f) (hl : i < m.length := by first | decide | simp) (hc : X.calm = true := by rfl) (hy : X.N[i]? = some y := by rfl) (hyl : X.env.scope.names.lookup y = some .local := by rfl)
    (hsw : swapsWith (.ListComp elt [⟨tg, iter, ifs, 0⟩] scope pos) (some (.Name y py)) spos.line X.env = pure true := by rfl) (hN0 : X.N = N0 := by rfl) (hsc : X.env.scope = sc0 := by rfl) (ok : blkC N0 sc0 scope own = true := by decide +kernel) (hts : ∀ t ∈ ts, t ∈ own.map (·.2) := by decide)
    (hs : ∀ x, foldedSetIterable iter X.env x = pure x := by intro _; rfl) : JS X E L m (m.set i .ow) (.Assign [.Name y py] (.ListComp elt [⟨tg, iter, ifs, 0⟩] scope pos) spos) (fSet i (fLc (own.map (·.2)) it g c f)) := by
  refine ⟨PSimp (ps_setLc (g := tGD X.K X.mg m ts g) (tt := tT X.K X.mg EF m c) (te := tE X.K X.mg EF m .sh f) hc (by rw [hN0]; exact Sc.nd) hy hyl hsw hi.pi (blkOk_by (by rw [hN0, hsc]; exact ok)) (fun s H C cl fp => (hg s H C cl fp).pg) (fun s H C cl fp => (ht s H C cl fp).pt) (fun s H C cl fp => (he s H C cl fp).pe) hs) fun D σ H h => ?_⟩
  obtain ⟨S0, H0, ρ, ⟨S, Fp, st⟩, p⟩ := h
  refine lc_ok hts ⟨S, ρ, st.envM, (lift_post st p).postM fun d v S1 H1 fp s1 o hn hf k => ?_⟩
  refine k _ _ (StF.stM ((st.step s1).set hl o hn (fun a ha => st.1.hh.free (hf a ha)) fun j e' hj ej a ha z => ?_))
  obtain ⟨w, _, o'⟩ := st.2.1.at_ j e' ej
  obtain ⟨_, u, hu⟩ := o'.out ha
  rw [hf a z] at hu
  cases hu
end
end Da
namespace Da
open PySem PySem.Spec L2
end Da
namespace Da
open PySem PySem.Spec L2
theorem enum_new {v : Value} {o : Obj} {G : Heap → Prop} (B : Begins v o G) :
    Meets (Builtin.«enumerate.__new__» ⟨[.type "enumerate", v], []⟩) (fun _ R s => G s.heap ∧
      R (.ok (.ret (.ref (s.heap.push o).objs.size))) { s with heap := (s.heap.push o).push { cls := .type "enumerate", data := .fields #[.none, .bool false, .ref s.heap.objs.size, rawInt 0, .none, .none] } }) :=
  .of_wp fun prog w A R s hh => by
    obtain ⟨hp, g, d, tk, os⟩ := s
    obtain ⟨hg, hh⟩ := hh
    have hsb := sub_enumerate
    have walk : ∀ {A' : Around} {Er : Value → Shared → Prop} {Qv : Value → Shared → Prop}, Qv (.ref hp.objs.size) ⟨hp.push o, g, d, tk, os⟩ → wpAny (model prog w) A' (pyIter v) Qv Er ⟨hp, g, d, tk, os⟩ := fun q => B.iter prog w _ _ ⟨hp, g, d, tk, os⟩ _ hg q
    wp_walk using walk
    refine wpAny_stack_any fun stk => wpAny_pure ?_
    split
    · rename_i c _ _ _ _ _
      cases (c == Value.type "enumerate") <;> (wp_walk using walk; exact ⟨_, rfl, hh⟩)
    · wp_walk using walk; exact ⟨_, rfl, hh⟩
theorem call_enumT {prog : Program} {w : World} {A : Around} {Er : Value → Shared → Prop} {s : Shared} {t : Addr} {items : Array Value} {Q : Value → Shared → Prop} (ht : s.heap.IsTuple t items)
    (h : ∀ h', IsEnum h' (s.heap.objs.size + 1) s.heap.objs.size 0 .none → h'.IsTupleIter s.heap.objs.size t 0 → (∀ b o, s.heap.get? b = some o → h'.get? b = some o) → Q (.ref (s.heap.objs.size + 1)) { s with heap := h' }) :
    wpAny (model prog w) A (call (.type "enumerate") [.ref t]) Q Er s := by
  refine callType_new F.called_enumerate (by decide) (F.typeCall_enumerate_1 _) (F.newCall_enumerate_1 _) (fun obj => F.args_object_init_2 obj _) F.entry_enumerate_new (enum_new (begins_tuple t items)) ⟨ht, ?_⟩
  have hz : (s.heap.push { cls := .type "tuple_iterator", data := .fields #[.ref t, .int 0 0] }).objs.size = s.heap.objs.size + 1 := Heap.size_push ..
  show _ ∧ _
  rw [hz]
  have he : IsEnum ((s.heap.push { cls := .type "tuple_iterator", data := .fields #[.ref t, .int 0 0] }).push { cls := .type "enumerate", data := .fields #[.none, .bool false, .ref s.heap.objs.size, rawInt 0, .none, .none] }) (s.heap.objs.size + 1) s.heap.objs.size 0 .none := by
    have q := Heap.get?_push_size (s.heap.push { cls := .type "tuple_iterator", data := .fields #[.ref t, .int 0 0] }) (o := { cls := .type "enumerate", data := .fields #[.none, .bool false, .ref s.heap.objs.size, rawInt 0, .none, .none] }) rfl
    rw [hz] at q
    exact q
  exact ⟨⟨_, he, rfl⟩, h _ he ⟨_, Heap.get?_push_of_some _ (Heap.get?_push_size _ rfl), rfl, rfl⟩ fun b o x => Heap.get?_push_of_some _ (Heap.get?_push_of_some _ x)⟩
/-- the tuple at a, each item in a new pair -/
def IteT (K : PySem.W.Frag) (a : Addr) : It :=
  ⟨fun i H => ∃ (xs : List V) (x : V), SqT K H a xs ∧ xs[i]? = some x, fun i H v H' => ∃ T x, v = .ref T ∧ H T = none ∧ H' = upd H T (.tup [.int (i : Nat), x]) ∧ ∀ xs, SqT K H a xs → xs[i]? = some x, fun i H => ∃ xs : List V, SqT K H a xs ∧ xs.length ≤ i⟩
theorem turn_enumT {P : Program} {w : World} {K : PySem.W.Frag} {elts : List Expr} {kk : Nat} {tpos : Pos} (a e it : Addr) :
    L2.Turn P w K (.Tuple elts kk tpos) (IteT K a) [e, it] e (fun i h => (∃ old, IsEnum h e it ((i : Nat) : Int) old) ∧ h.IsTupleIter it a i ∧ e ≠ it) where
  mem := by simp
  obj := fun i h st b hb => by
    obtain ⟨⟨old, he⟩, ⟨o, ho, hc, hd⟩, _⟩ := st
    rcases (show b = e ∨ b = it by simpa using hb) with z | z
    · rw [z]; exact ⟨_, he, fun v q => nomatch q⟩
    · rw [z]; exact ⟨o, ho, fun v q => by rw [hd] at q; cases q⟩
  keep := fun i h h' st k => let ⟨⟨old, he⟩, hi, hne⟩ := st; ⟨⟨old, k e (by simp) _ he⟩, hi.at fun o q => k it (by simp) o q, hne⟩
  item := by
    intro X hP hw hK hc i pins s σ H Er I hf st hg
    subst hP hw hK
    obtain ⟨⟨old, he⟩, hit, hne⟩ := st
    obtain ⟨xs, x, hq, hx⟩ := hg
    obtain ⟨its, rv, p, hz⟩ := I.tuple hq
    obtain ⟨u, hu, ru⟩ := rv.get hx
    have hel : e < s.heap.objs.size := Heap.lt_size he
    have hil : it < s.heap.objs.size := by obtain ⟨_, q, _⟩ := hit; exact Heap.lt_size q
    have ht : s.heap.IsTuple a its.toArray := p
    have hea : e ≠ a := fun z => by
      obtain ⟨o, ho, hco, _⟩ := ht
      rw [← z, he] at ho
      cases ho
      exact absurd (show Value.type "enumerate" = Value.type "tuple" from hco) (by decide)
    have hia : a ≠ it := fun z => by
      obtain ⟨o, ho, hco, _⟩ := ht
      obtain ⟨o2, ho2, hc2, _⟩ := hit
      rw [z, ho2] at ho
      cases ho
      rw [hc2] at hco
      exact absurd hco (by decide)
    have hlt : i < its.toArray.size := by
      rw [List.size_toArray]
      exact (List.getElem?_eq_some_iff.mp hu).1
    refine wpAny_pyNext_enum_itemD (Draws.tuple (A := X.A.in1) (I.ok.hd hc) it a hia its.toArray) he ⟨hit, ht⟩ hlt hne (by simp [hne, hea]) fun y h' tk hy ho hst hT hsz hk => ?_
    have hyu : y = u := by
      have q : its[i]? = some y := by simpa using hy
      rw [hu] at q
      injection q with q
      exact q.symm
    subst hyu
    refine ⟨_, rfl, wpAny_letOwnedTupleGo_enum (s := { s with heap := h', toks := tk + 1 }) ho fun h'' he' sb => ?_⟩
    have hT2 : h''.get? s.heap.objs.size = some { cls := .type "tuple", data := .seq #[.int i tk, y] } := (sb.2 _ (Nat.ne_of_gt hel)).trans hT
    have new : ObjOk X.prog X.w (upd H s.heap.objs.size (.tup [.int (i : Nat), x])) h'' s.heap.objs.size (.tup [.int (i : Nat), x]) :=
      ⟨by show 2 ≤ sizeLine; decide, [.int i tk, y], .cons ⟨_, rfl⟩ (.cons ru .nil), ⟨_, hT2, rfl, _, rfl⟩⟩
    have I1 : Inv X pins σ (upd H s.heap.objs.size (.tup [.int (i : Nat), x])) { s with heap := h'', toks := tk + 1 } :=
      I.turnedNew (ch := [e, it]) (fun b ob hb q => (sb.2 b (fun z => hb (by simp [z]))).trans (hk b ob (fun z => hb (by simp [z])) (fun z => hb (by simp [z])) q)) hf (Nat.le_refl _) new
    refine ⟨.ref s.heap.objs.size, _, I1, rfl, ⟨_, x, rfl, I.hok.fresh (Nat.le_refl _), rfl, fun ys hy => by rw [I.tuple_inj hy hq]; exact hx⟩, ⟨⟨y, ?_⟩, hst.1.at fun o q => (sb.2 it (Ne.symm hne)).trans q, hne⟩, fun b hb => ?_⟩
    · rw [show ((i + 1 : Nat) : Int) = (i : Int) + 1 by omega]
      exact he'
    · have hlt2 : b < s.heap.objs.size := by
        rcases (show b = e ∨ b = it by simpa using hb) with z | z
        · rw [z]; exact hel
        · rw [z]; exact hil
      rw [upd_ne (Nat.ne_of_lt hlt2)]
      exact (hf b hb).1
  done := by
    intro X hP hw hK hc i pins s σ H Er I hf st hg
    subst hP hw hK
    obtain ⟨⟨old, he⟩, hit, hne⟩ := st
    obtain ⟨xs, hq, hx⟩ := hg
    obtain ⟨its, rv, p, hz⟩ := I.tuple hq
    have hl := rv.length
    have ht : s.heap.IsTuple a its.toArray := p
    obtain ⟨f0, f1, f2, f3, f4, f5⟩ := hf it (by simp)
    have hT : s.TypeIs (.ref e) "enumerate" := ⟨_, he, rfl⟩
    unfold pyNext
    refine wpAny_bind (wpAny_attempt (wpAny_callSpecial?_slot (name := Str.ofString "__next__") hT F.slot_enumerate_next (wpAny_call_entry F.slot_enumerate_next hT F.entry_enumerate_next ?_ (F.args_enumerate_next_1 _))))
    show wpAny _ _ (field (.ref e) 2 >>= _) _ _ _
    refine wpAny_bind (wpAny_field he rfl (x := .ref it) rfl (wpAny_bind (wpAny_nextOf_tuple_end (I.ok.hd hc) hit ht (by simp; omega) fun h' x hx1 hx2 => ?_)))
    obtain ⟨o, ho, hco⟩ := hx2
    exact wpAny_bind (wpAny_isInstance (T := "StopIteration") (b := true) ⟨o, ho, hco⟩ isSubtype_stop (wpAny_pure ⟨rfl, I.turned (t' := s.toks) (fun b o hb q => hx1 b o hb q) f0 f1 f3 f4 f5⟩))
  self := fun A i s Q Er st h => let ⟨⟨_, he⟩, _⟩ := st; wpAny_pyIter_enum he h
def iEnumA (K : PySem.W.Frag) (ta : TA) : TI := fun σ H R => ta σ H fun vs H1 => ∃ a xs, vs = [.ref a] ∧ (SqL K H1 a xs ∧ R (Ite K a) H1 ∨ SqT K H1 a xs ∧ R (IteT K a) H1)
theorem pi_enumA {X : Cx} {e : Expr} {ta : TA} {p pos tpos : Pos} {elts : List Expr} {kk : Nat} (hg : Gl X "enumerate") (hm : X.mg "enumerate" = none) (ha : PA X [e] ta) (hs : starEach [e] X.env = [(false, eval e X.env)] := by rfl) :
    PI X (.Tuple elts kk tpos) (.Call (.Name "enumerate" p) [e] [] pos) (iEnumA X.K ta) := by
  refine ⟨fun pins s σ H R I h => PyProof.Rows.Call_ (ld_blt I hg hm PyProof.Rows.boot_enumerate (PyProof.Rows.callWith_type1 (thn (ha.run pos pins s σ H _ I h) fun us s1 ⟨vs, H1, I1, r1, q1⟩ => ?_) hs rfl))⟩
  obtain ⟨a, xs, rfl, q1⟩ := q1
  obtain ⟨u, rfl, ru⟩ := Vals.one r1
  cases ru
  have fresh : ∀ b, b ∈ [s1.heap.objs.size + 1, s1.heap.objs.size] → FpOk X pins H1 b := fun b hb => by
    have hle : s1.heap.objs.size ≤ b := by
      rcases (show b = s1.heap.objs.size + 1 ∨ b = s1.heap.objs.size by simpa using hb) with z | z
      · rw [z]; exact Nat.le_add_right _ _
      · rw [z]; exact Nat.le_refl _
    exact I1.fpOk hle (I1.hok.fresh hle)
  rcases q1 with ⟨hq, q⟩ | ⟨hq, q⟩
  · obtain ⟨its, rv, pl, _⟩ := I1.list hq
    refine call_enumerate_list pl.isList fun h' he hit _ hk => wpAny_pyIter_enum he ?_
    exact ⟨_, _, _, _, H1, rfl, I1.kept (t' := s1.toks) hk, turn_enum a (s1.heap.objs.size + 1) s1.heap.objs.size, ⟨⟨.none, he⟩, hit, Nat.succ_ne_self _⟩, fresh, q⟩
  · obtain ⟨its, rv, pl, _⟩ := I1.tuple hq
    refine call_enumT (show s1.heap.IsTuple a its.toArray from pl) fun h' he hit hk => wpAny_pyIter_enum he ?_
    exact ⟨_, _, _, _, H1, rfl, I1.kept (t' := s1.toks) hk, turn_enumT a (s1.heap.objs.size + 1) s1.heap.objs.size, ⟨⟨.none, he⟩, hit, Nat.succ_ne_self _⟩, fresh, q⟩
def tGsD (K : PySem.W.Frag) (mg : Str → Option Value) (m : Mds) (ts : List Nat) (g : List D → Env → Res Env) : TGs := fun vs σ H Q => ∃ S0 H0 S F ρ ds, StF K mg m S0 H0 S F σ ρ H ∧ RepL K mg S vs ds ∧ (match g ds ρ with
  | .ok ρ1 => ∀ σ1 S1 F1 H1, StF K mg m S0 H0 S1 F1 σ1 ρ1 H1 → Step S H S1 H1 → (σ1.length = σ.length ∧ ∀ j, j ∉ ts → σ1[j]? = σ[j]?) → Q σ1 H1
  | _ => False)
structure JGs (X : Cx) (m : Mds) (ts : List Nat) (es : List Expr) (g : List D → Env → Res Env) : Prop where
  pgs : PGs X es (tGsD X.K X.mg m ts g)
def gs0 : List D → Env → Res Env := fun ds ρ => match ds with
  | [] => .ok ρ
  | _ => .er
def gsC (g : D → Env → Res Env) (r : List D → Env → Res Env) : List D → Env → Res Env := fun ds ρ => match ds with
  | d :: ds => (match g d ρ with
    | .ok ρ1 => r ds ρ1
    | _ => .er)
  | [] => .er
def gT (r : List D → Env → Res Env) : D → Env → Res Env := fun d ρ => match d with
  | .tup ds => r ds ρ
  | _ => .er
section
variable {X : Cx} {E : WX} {m : Mds} {ts us : List Nat} {tg e : Expr} {es elts : List Expr} {g : D → Env → Res Env} {r : List D → Env → Res Env} {fs : Env → Res (List D)} {p pos tpos : Pos} {kk : Nat}
theorem jgs_nil : JGs X m [] [] gs0 := by
  refine ⟨⟨fun pins s σ H vs uv Q I rv h => pgs_nil.run pins s σ H vs uv Q I rv ?_⟩⟩
  obtain ⟨S0, H0, S, F, ρ, ds, st, rd, q⟩ := h
  match ds, rd, q with
  | [], rd, q => exact ⟨rd.nil_iff.mpr rfl, q σ S F H st (Step.refl st.1.sub) ⟨rfl, fun _ _ => rfl⟩⟩
  | _ :: _, _, q => exact q.elim
theorem jgs_cons (h1 : JG X m ts e g) (h2 : JGs X m us es r) (hs : (assignEach (e :: es) X.env).map (·.2) = assign e X.env :: (assignEach es X.env).map (·.2) := by rfl) : JGs X m (ts ++ us) (e :: es) (gsC g r) := by
  refine ⟨⟨fun pins s σ H vs uv Q I rv h => (pgs_cons h1.pg h2.pgs hs).run pins s σ H vs uv Q I rv ?_⟩⟩
  obtain ⟨S0, H0, S, F, ρ, ds, st, rd, q⟩ := h
  match ds, rd, q with
  | [], _, q => exact q.elim
  | d :: ds, rd, q =>
    match vs, rd with
    | [], rd => have := rd.len; simp at this
    | v :: vs, rd =>
      refine ⟨v, vs, rfl, S0, H0, S, F, ρ, d, st, rd.head, ?_⟩
      unfold gsC at q
      simp only at q
      cases eg : g d ρ with
      | ok ρ1 =>
        rw [eg] at q
        simp only at q
        refine fun σ1 S1 F1 H1 st1 s1 fr1 => ⟨S0, H0, S1, F1, ρ1, ds, st1, rd.tail.mono s1.ss, ?_⟩
        cases er : r ds ρ1 with
        | ok ρ2 =>
          rw [er] at q
          refine fun σ2 S2 F2 H2 st2 s2 fr2 => q σ2 S2 F2 H2 st2 (s1.trans s2) ⟨fr2.1.trans fr1.1, fun j hj => ?_⟩
          rw [List.mem_append, not_or] at hj
          exact (fr2.2 j hj.2).trans (fr1.2 j hj.1)
        | ex c fs => rw [er] at q; exact q.elim
        | er => rw [er] at q; exact q.elim
      | ex c fs => rw [eg] at q; exact q.elim
      | er => rw [eg] at q; exact q.elim
/-- (a, b, ..) takes a tuple of that length -/
theorem jg_tup (h : JGs X m ts es r) (hr : ∀ ds ρ ρ1, r ds ρ = .ok ρ1 → ds.length = es.length) (hc : X.calm = true := by rfl) (hn : (assignEach es X.env).length = es.length := by rfl) (hst : (assignEach es X.env).findIdx? (·.1) = none := by rfl) : JG X m ts (.Tuple es kk tpos) (gT r) := by
  refine ⟨⟨fun pins s σ H v u Q I rv hq => (pg_tup hc h.pgs hn hst).run pins s σ H v u Q I rv ?_⟩⟩
  obtain ⟨S0, H0, S, F, ρ, d, st, rd, q⟩ := hq
  cases d with
  | tup ds =>
    obtain ⟨a, vs, rfl, ha, rs⟩ := rd.of_tup
    have q : (match r ds ρ with
      | .ok ρ1 => ∀ σ1 S1 F1 H1, StF X.K X.mg m S0 H0 S1 F1 σ1 ρ1 H1 → Step S H S1 H1 → (σ1.length = σ.length ∧ ∀ j, j ∉ ts → σ1[j]? = σ[j]?) → Q σ1 H1
      | _ => False) := q
    cases er : r ds ρ with
    | ok ρ1 => exact ⟨a, vs, rfl, same_t st.1.sub ha, by rw [rs.len]; exact hr ds ρ ρ1 er, S0, H0, S, F, ρ, ds, st, rs, q⟩
    | ex c fs => rw [er] at q; exact q.elim
    | er => rw [er] at q; exact q.elim
  | _ => exact q.elim
theorem gs0_len (ds : List D) (ρ ρ1 : Env) (h : gs0 ds ρ = .ok ρ1) : ds.length = 0 := by
  cases ds with
  | nil => rfl
  | cons d ds => cases h
theorem gsC_len {n : Nat} {g : D → Env → Res Env} {r : List D → Env → Res Env} (hr : ∀ ds ρ ρ1, r ds ρ = .ok ρ1 → ds.length = n) (ds : List D) (ρ ρ1 : Env) (h : gsC g r ds ρ = .ok ρ1) : ds.length = n + 1 := by
  cases ds with
  | nil => cases h
  | cons d ds =>
    unfold gsC at h
    simp only at h
    split at h
    · rw [List.length_cons, hr ds _ _ h]
    · cases h
theorem jg_tup2 {a b : Expr} {ga gb : D → Env → Res Env} (h1 : JG X m ts a ga) (h2 : JG X m us b gb) (hc : X.calm = true := by rfl) (ha : (assignEach [a, b] X.env).map (·.2) = assign a X.env :: (assignEach [b] X.env).map (·.2) := by rfl) (hb : (assignEach [b] X.env).map (·.2) = assign b X.env :: (assignEach [] X.env).map (·.2) := by rfl)
    (hn : (assignEach [a, b] X.env).length = 2 := by rfl) (hst : (assignEach [a, b] X.env).findIdx? (·.1) = none := by rfl) : JG X m (ts ++ (us ++ [])) (.Tuple [a, b] kk tpos) (gT (gsC ga (gsC gb gs0))) :=
  jg_tup (jgs_cons h1 (jgs_cons h2 jgs_nil hb) ha) (gsC_len (gsC_len gs0_len)) hc hn hst
def enumD (i : Nat) : List D → List D
  | [] => []
  | x :: xs => .tup [.int (i : Nat), x] :: enumD (i + 1) xs
theorem enumD_length : ∀ {xs : List D} {i : Nat}, (enumD i xs).length = xs.length
  | [], _ => rfl
  | x :: xs, i => by unfold enumD; rw [List.length_cons, List.length_cons, enumD_length]
theorem enumD_at : ∀ {xs : List D} {i j : Nat}, (enumD i xs)[j]? = (xs[j]?).map fun x => .tup [.int ((i + j : Nat) : Int), x]
  | [], _, _ => by simp [enumD]
  | x :: xs, i, 0 => by simp [enumD]
  | x :: xs, i, j + 1 => by
    unfold enumD
    rw [List.getElem?_cons_succ, List.getElem?_cons_succ, enumD_at, show i + 1 + j = i + (j + 1) by omega]
def dEnum : List D → Res (List D)
  | [d] => (asL d).bind fun xs => .ok (enumD 0 xs)
  | _ => .er
def fEnum (fs : Env → Res (List D)) : Env → Res (List D) := fun ρ => (fs ρ).bind dEnum
theorem walk_e {K : PySem.W.Frag} {mg : Str → Option Value} {S : Hp} {a : Addr} {vs : List V} {ds : List D} (r : RepL K mg S vs ds) (h : SqL K S a vs) : WalkD K mg (Ite K a) S (enumD 0 ds) where
  go := fun i d S1 H1 e s1 s2 => by
    rw [enumD_at, Nat.zero_add] at e
    cases ed : ds[i]? with
    | none => rw [ed] at e; cases e
    | some d0 =>
      rw [ed] at e
      cases e
      obtain ⟨v, ev, rv⟩ := r.get ed
      refine ⟨⟨vs, v, same_l s2 (same_l s1 h), ev⟩, fun x H2 ⟨T, y, e1, hT, e2, hy⟩ => ?_⟩
      subst e1 e2
      have := hy vs (same_l s2 (same_l s1 h))
      rw [ev] at this
      cases this
      have st := Step.laid (o := HO.tup [.int (i : Nat), v]) s2 hT
      exact ⟨_, st, Rep.tupL upd_same (.cons (.int _) (.cons ((rv.mono s1).mono st.ss) .nil))⟩
  stop := fun S1 H1 s1 s2 => ⟨vs, same_l s2 (same_l s1 h), by rw [enumD_length]; exact Nat.le_of_eq r.len⟩
theorem walk_eT {K : PySem.W.Frag} {mg : Str → Option Value} {S : Hp} {a : Addr} {vs : List V} {ds : List D} (r : RepL K mg S vs ds) (h : SqT K S a vs) : WalkD K mg (IteT K a) S (enumD 0 ds) where
  go := fun i d S1 H1 e s1 s2 => by
    rw [enumD_at, Nat.zero_add] at e
    cases ed : ds[i]? with
    | none => rw [ed] at e; cases e
    | some d0 =>
      rw [ed] at e
      cases e
      obtain ⟨v, ev, rv⟩ := r.get ed
      refine ⟨⟨vs, v, same_t s2 (same_t s1 h), ev⟩, fun x H2 ⟨T, y, e1, hT, e2, hy⟩ => ?_⟩
      subst e1 e2
      have := hy vs (same_t s2 (same_t s1 h))
      rw [ev] at this
      cases this
      have st := Step.laid (o := HO.tup [.int (i : Nat), v]) s2 hT
      exact ⟨_, st, Rep.tupL upd_same (.cons (.int _) (.cons ((rv.mono s1).mono st.ss) .nil))⟩
  stop := fun S1 H1 s1 s2 => ⟨vs, same_t s2 (same_t s1 h), by rw [enumD_length]; exact Nat.le_of_eq r.len⟩
theorem dEnum_ok {ds xs : List D} (h : dEnum ds = .ok xs) : ∃ d ys, ds = [d] ∧ asL d = .ok ys ∧ xs = enumD 0 ys := by
  unfold dEnum at h
  split at h
  · rename_i d
    cases e : asL d with
    | ok ys => rw [e] at h; cases h; exact ⟨d, ys, rfl, e, rfl⟩
    | ex c fs => rw [e] at h; cases h
    | er => rw [e] at h; cases h
  · cases h
theorem asL_ex {d : D} {c : Str} {fs : List (Str × D)} : asL d ≠ .ex c fs := by
  cases d <;> exact fun z => nomatch z
theorem dEnum_ex {ds : List D} {c : Str} {fs : List (Str × D)} : dEnum ds ≠ .ex c fs := by
  unfold dEnum
  split
  · rename_i d
    cases e : asL d with
    | ok ys => exact fun z => nomatch z
    | ex c fs => exact absurd e asL_ex
    | er => exact fun z => nomatch z
  · exact fun z => nomatch z
theorem ji_enum (ha : JA X E m [e] fs) (hm : X.mg "enumerate" = none) (hg : Gl X "enumerate" := by rfl) (hs : starEach [e] X.env = [(false, eval e X.env)] := by rfl) : JI X E m (.Tuple elts kk tpos) (.Call (.Name "enumerate" p) [e] [] pos) (fEnum fs) := by
  refine ⟨⟨fun pins s σ H R I h => (pi_enumA hg hm ha.pa hs).run pins s σ H R I ?_⟩⟩
  obtain ⟨S, ρ, hm, hp⟩ := h
  refine ⟨S, ρ, hm, (PostW.bind hp).imp fun ds S1 H1 s1 k vs rv => ?_⟩
  obtain ⟨xs, e, k⟩ := PostW.okOf k fun _ _ => dEnum_ex
  obtain ⟨d, ys, rfl, ey, rfl⟩ := dEnum_ok e
  obtain ⟨v, rfl, rd⟩ := repl1 rv
  cases d with
  | lst xs =>
    cases ey
    obtain ⟨a, vs, rfl, ha, rv⟩ := rd.of_lst
    exact ⟨a, vs, rfl, .inl ⟨.inl (.inl (s1.sub _ _ ha)), k S1 H1 (Step.refl s1.sub) _ (walk_e rv (.inl (.inl ha)))⟩⟩
  | frl xs =>
    cases ey
    obtain ⟨a, vs, rfl, ha, rv⟩ := rd.of_frl
    exact ⟨a, vs, rfl, .inl ⟨same_l s1.sub ha, k S1 H1 (Step.refl s1.sub) _ (walk_e rv ha)⟩⟩
  | tup xs =>
    cases ey
    obtain ⟨a, vs, rfl, ha, rv⟩ := rd.of_tup
    exact ⟨a, vs, rfl, .inr ⟨same_t s1.sub ha, k S1 H1 (Step.refl s1.sub) _ (walk_eT rv ha)⟩⟩
  | _ => cases ey
end
end Da
namespace Da
open PySem PySem.Spec L2
def tX (K : PySem.W.Frag) (mg : Str → Option Value) (m : Mds) (f : Env → Res (D × Env)) : TE := fun σ H Q => ∃ S0 H0 S F ρ, StF K mg m S0 H0 S F σ ρ H ∧ (match f ρ with
  | .ok (d, ρ1) => ∀ v S1 F1 H1, Same S S1 → StF K mg m S0 H0 S1 F1 σ ρ1 H1 → Rep K mg S1 v d → Q v H1
  | _ => False)
structure JX (X : Cx) (m : Mds) (e : Expr) (f : Env → Res (D × Env)) : Prop where
  pe : PE X e (tX X.K X.mg m f)
def fPop (i : Nat) (f : Env → Res D) : Env → Res (D × Env) := fun ρ => match ρ[i]? with
  | some (some (.lst xs)) => (match f ρ with
    | .ok (.int z) => (match ixN xs.length z with
      | some k => (match xs[k]? with
        | some y => if szOk xs.length = true then .ok (y, ρ.set i (some (.lst (xs.eraseIdx k)))) else .er
        | none => .er)
      | none => .er)
    | _ => .er)
  | _ => .er
def fAppX (i : Nat) (f : Env → Res (D × Env)) : FS := fun ρ => match ρ[i]? with
  | some (some (.lst _)) => (match f ρ with
    | .ok (d, ρ1) => (match ρ1[i]? with
      | some (some (.lst xs)) => if szOk (xs.length + 1) = true then .ok (.nx (ρ1.set i (some (.lst (xs ++ [d]))))) else .er
      | _ => .er)
    | _ => .er)
  | _ => .er
theorem Same.ref_eq {a b : Addr} {σ : L2.St} {i : Nat} (h : σ[i]? = some (some (V.ref a))) (k : σ[i]? = some (some (V.ref b))) : b = a := by
  rw [h] at k
  injection k with z; injection z with z; injection z with z
  exact z.symm
theorem ix_fits {n : Nat} {z : Int} {k : Nat} (h : ixN n z = some k) (hn : n ≤ sizeLine) : -(2 ^ 63) ≤ z ∧ z < 2 ^ 63 := by
  obtain ⟨_, _, h1, h2⟩ := ixN_seq h
  rw [sizeLine_eq] at hn
  omega
section
variable {X : Cx} {E : WX} {L : Lp} {m : Mds} {e : Expr} {f : Env → Res D} {fx : Env → Res (D × Env)} {x : Str} {pos p1 p2 p3 : Pos}
theorem jx_pop (i : Nat) (he : JE X EF m .sh e f) (hmd : IsOw (mdAt m i) := by first | exact .inl rfl | exact .inr ⟨_, rfl⟩) (hl : i < m.length := by first | decide | simp) (hN : X.N[i]? = some x := by rfl) (hv : Vis X.env.scope x := by first | exact Or.inl rfl | exact Or.inr (Or.inl rfl) | exact Or.inr (Or.inr rfl))
    (hd : (x == ("__debug__" : Str)) = false := by decide) (hcd : (x == ("__classdict__" : Str)) = false := by decide)
    (hpe : ∀ {to te : TE}, PE X (.Name x p1) to → PE X e te → PE X (.Call (.Attribute (.Name x p1) "pop" p2) [e] [] p3) (tBM X.K "list" rPopAt to (tCons te tNil)) := by
      intro to te ho he
      exact pe_bm PySem.F.plainAttrs_list PySem.F.slot_list_pop PySem.F.type_list_pop mt_popAt ho (pa_cons he pa_nil)) :
    JX X m (.Call (.Attribute (.Name x p1) "pop" p2) [e] [] p3) (fPop i f) := by
  refine ⟨⟨fun pins s σ H Q I h => (hpe (pe_var hN hv hd hcd) he.pe).run pins s σ H Q I ?_⟩⟩
  obtain ⟨S0, H0, S, Fp, ρ, st, p⟩ := h
  unfold fPop at p
  split at p
  · rename_i d ρ1 er
    split at er
    · rename_i xs exs
      obtain ⟨pa, vs, ds, eds, e1, e2, e3, e4, e5⟩ := st.own hmd exs
      cases eds
      refine ⟨_, e2, .inl ⟨rfl, vs, .inl (.inl e4)⟩, S, ρ, st.envM, ?_⟩
      split at er
      · rename_i z ez
        rw [ez]
        intro v S1 H1 fp s1 o _ _
        cases o.1
        split at er
        · rename_i k ek
          split at er
          · rename_i y ey
            split at er
            rotate_left
            · cases er
            rename_i hz0
            cases er
            obtain ⟨qa, ws, ds1, eds, q1, q2, q3, q4, q5⟩ := (st.step s1).own hmd exs
            cases eds
            obtain rfl := Same.ref_eq e2 q2
            obtain ⟨w, ew, rw'⟩ := q5.get ey
            obtain ⟨b1, b2⟩ := ix_fits ek (szOk_ok hz0)
            exact ⟨_, ws, z, k, w, rfl, rfl, q4, b1, b2, by rw [q5.len]; exact (ixN_seq ek).1, ew, p w S1 Fp _ s1.ss ((st.step s1).write hl hmd exs q1 q2 q3 q4 (q5.eraseIdx k)) rw'⟩
          · cases er
        · cases er
      · cases er
    · cases er
  · exact p.elim
theorem js_appX (i : Nat) (he : JX X m e fx) (hmd : IsOw (mdAt m i) := by first | exact .inl rfl | exact .inr ⟨_, rfl⟩) (hl : i < m.length := by first | decide | simp) (hN : X.N[i]? = some x := by rfl) (hv : Vis X.env.scope x := by first | exact Or.inl rfl | exact Or.inr (Or.inl rfl) | exact Or.inr (Or.inr rfl))
    (hd : (x == ("__debug__" : Str)) = false := by decide) (hcd : (x == ("__classdict__" : Str)) = false := by decide)
    (hs : swapsWith (.Call (.Attribute (.Name x p1) "append" p2) [e] [] p3) none pos.line X.env = pure false := by rfl)
    (hpe : ∀ {to te : TE}, PE X (.Name x p1) to → PE X e te → PE X (.Call (.Attribute (.Name x p1) "append" p2) [e] [] p3) (tBM X.K "list" rAppend to (tCons te tNil)) := by
      intro to te ho he
      exact pe_bm PySem.F.plainAttrs_list PySem.F.slot_list_append PySem.F.type_list_append mt_append ho (pa_cons he pa_nil)) :
    JS X E L m m (.Expr (.Call (.Attribute (.Name x p1) "append" p2) [e] [] p3) pos) (fAppX i fx) := by
  refine ⟨PSimp (ps_expr (hpe (pe_var hN hv hd hcd) he.pe) hs) fun D σ H h => ?_⟩
  obtain ⟨S0, H0, ρ, ⟨S, Fp, st⟩, p⟩ := h
  unfold fAppX at p
  split at p
  · rename_i xs0 exs0
    obtain ⟨pa, vs, ds, eds, e1, e2, e3, e4, e5⟩ := st.own hmd exs0
    refine ⟨_, e2, .inl ⟨rfl, vs, .inl (.inl e4)⟩, S0, H0, S, Fp, ρ, st, ?_⟩
    split at p
    · rename_i d ρ1 er
      intro v S1 F1 H1 _ st1 rd
      split at p
      · rename_i xs exs
        split at p
        · rename_i hz
          obtain ⟨qa, ws, ds1, eds1, q1, q2, q3, q4, q5⟩ := st1.own hmd exs
          cases eds1
          obtain rfl := Same.ref_eq e2 q2
          exact ⟨_, ws, v, rfl, rfl, q4, by rw [q5.len]; exact szOk_lt hz, p _ _ (st1.write hl hmd exs q1 q2 q3 q4 (q5.snoc rd)).stM⟩
        · exact p.elim
      · exact p.elim
    · exact p.elim
  · exact p.elim
end
end Da
namespace Da
open PySem PySem.Spec L2
/-- whole numbers from naturals -/
def nat (i : Nat) : D := .int (i : Int)
theorem rng_zero {n : Nat} : rng 0 n = (List.range n).map nat := by
  unfold rng
  refine List.map_congr_left fun i _ => ?_
  rw [Int.zero_add]
  rfl
@[simp] theorem rng0_length {lo : Int} {n : Nat} : (rng lo n).length = n := rng_length
@[simp] theorem dList_lst {xs : List D} : dList (.lst xs) = .ok (.lst xs) := rfl
@[simp] theorem dList_tup {xs : List D} : dList (.tup xs) = .ok (.lst xs) := rfl
@[simp] theorem dTuple_lst {xs : List D} : dTuple (.lst xs) = .ok (.tup xs) := rfl
@[simp] theorem dTuple_tup {xs : List D} : dTuple (.tup xs) = .ok (.tup xs) := rfl
@[simp] theorem fTupleR1_ap {f : Env → Res D} {ρ : Env} {j : Int} (h : f ρ = .ok (.int j)) (h0 : 0 ≤ j) (h1 : j ≤ 1000000) : fTupleR1 f ρ = .ok (.tup ((List.range j.toNat).map nat)) := by
  unfold fTupleR1
  rw [h]
  show (if rgnOk 0 j = true then Res.ok (D.tup (rng 0 (j - 0).toNat)) else .er) = _
  rw [if_pos (show rgnOk 0 j = true from stuck_iff.mpr ⟨stuck_iff.mpr (by omega), by omega⟩), rng_zero, Int.sub_zero]
@[simp] theorem wipeD_one {ρ : Env} {i : Nat} : wipeD ρ [i] = ρ.set i none := rfl
@[simp] theorem fSc_int {f : Env → Res D} {ρ : Env} {j : Int} (h : f ρ = .ok (.int j)) : fSc f ρ = .ok (.int j) := by unfold fSc; rw [h]; rfl
@[simp] theorem fNx_ok {α : Type} {f : Env → Res α} {ρ : Env} {d : α} (h : f ρ = .ok d) : fNx f ρ = .ok d := by unfold fNx; rw [h]
/-- 0, 1, .. n - 1 -/
def upto (n : Nat) : List Int := (List.range n).map fun (i : Nat) => (i : Int)
theorem upto_length {n : Nat} : (upto n).length = n := by unfold upto; rw [List.length_map, List.length_range]
theorem upto_at {n i : Nat} (h : i < n) : (upto n)[i]? = some (i : Int) := by unfold upto; rw [List.getElem?_map, List.getElem?_range h]; rfl
theorem mem_upto {n : Nat} {x : Int} : x ∈ upto n ↔ 0 ≤ x ∧ x < n := by
  unfold upto
  rw [List.mem_map]
  constructor
  · rintro ⟨i, hi, rfl⟩
    have := List.mem_range.mp hi
    omega
  · intro h
    exact ⟨x.toNat, List.mem_range.mpr (by omega), by omega⟩
end Da
namespace Da
open PySem PySem.Spec L2
def look : List Key → List D → Key → Option D
  | k' :: ks, d :: ds, k => if k' = k then some d else look ks ds k
  | _, _, _ => none
end Da
namespace Da
open PySem PySem.Spec L2
section
variable {X : Cx} {E : WX} {L : Lp} {m : Mds} {ts : List Nat} {N0 ps0 : List Str} {sc0 : Scope} {kx vx tg iter e : Expr} {ifs : List Expr} {scope : Scope} {own : List (Str × Nat)} {pos p p1 p2 p3 tpos : Pos} {it : Env → Res (List D)} {g : D → Env → Res Env} {c : Env → Res Bool} {fk fv fa fb : Env → Res D} {a b : Expr} {es elts : List Expr} {kk k : Nat} {fs : Env → Res (List D)}
def dGcd : D → D → Res D
  | .int i, .int j => .ok (.int ((Nat.gcd i.natAbs j.natAbs : Nat) : Int))
  | _, _ => .er
theorem je_gcd (hm : X.mg "gcd" = some (.builtin "math.gcd")) (ha : JA X E m [a, b] fs) (hg : Gl X "gcd" := by rfl) (he : starEach [a, b] X.env = (false, eval a X.env) :: starEach [b] X.env := by rfl) (hpl : (backTo pos (starEach [b] X.env)).any (·.1) = false := by rfl) : JE X E m .sh (.Call (.Name "gcd" p) [a, b] [] pos) (fOn (on2 dGcd) fs) :=
  ⟨PEimp (pe_callBfun cr_gcd hg hm ha.pa (by decide) he hpl) fun σ H Q h => call1 (calld2 fun E S H x y d e Q hs rx ry hp => by
    cases d with
    | int i =>
      cases e with
      | int j =>
        cases rx; cases ry
        exact ⟨i, j, rfl, Post.val hp hs (.int _)⟩
      | _ => exact hp.elim
    | _ => exact hp.elim) h⟩
def zipD : List D → List D → List D
  | x :: xs, y :: ys => .tup [x, y] :: zipD xs ys
  | _, _ => []
theorem zipD_at : ∀ {xs ys : List D} {i : Nat}, (zipD xs ys)[i]? = match xs[i]?, ys[i]? with
    | some x, some y => some (.tup [x, y])
    | _, _ => none
  | [], ys, i => by simp [zipD]
  | x :: xs, [], i => by
    unfold zipD
    cases (x :: xs)[i]? <;> simp
  | x :: xs, y :: ys, 0 => by simp [zipD]
  | x :: xs, y :: ys, i + 1 => by
    unfold zipD
    rw [List.getElem?_cons_succ, List.getElem?_cons_succ, List.getElem?_cons_succ, zipD_at]
theorem zipD_length : ∀ {xs ys : List D}, (zipD xs ys).length = min xs.length ys.length
  | [], ys => by simp [zipD]
  | x :: xs, [] => by simp [zipD]
  | x :: xs, y :: ys => by
    unfold zipD
    rw [List.length_cons, List.length_cons, List.length_cons, zipD_length]
    omega
def dZip : List D → Res (List D)
  | [.lst xs, .lst ys] => .ok (zipD xs ys)
  | [.tup xs, .tup ys] => .ok (zipD xs ys)
  | _ => .er
def fZip (fs : Env → Res (List D)) : Env → Res (List D) := fun ρ => (fs ρ).bind dZip
theorem walk_z {K : PySem.W.Frag} {mg : Str → Option Value} {S : Hp} {a b : Addr} {vs ws : List V} {ds es : List D} (r : RepL K mg S vs ds) (r2 : RepL K mg S ws es) (h : SqL K S a vs) (h2 : SqL K S b ws) : WalkD K mg (Itz K a b) S (zipD ds es) where
  go := fun i d S1 H1 e s1 s2 => by
    rw [zipD_at] at e
    cases ed : ds[i]? with
    | none => rw [ed] at e; cases e
    | some d0 =>
      cases ee : es[i]? with
      | none => rw [ed, ee] at e; cases e
      | some e0 =>
        rw [ed, ee] at e
        cases e
        obtain ⟨v, ev, rv⟩ := r.get ed
        obtain ⟨w, ew, rw'⟩ := r2.get ee
        refine ⟨⟨vs, ws, v, w, same_l s2 (same_l s1 h), same_l s2 (same_l s1 h2), ev, ew⟩, fun x H2 ⟨T, y, z, e1, hT, e2, hy, hz⟩ => ?_⟩
        subst e1 e2
        have q1 := hy vs (same_l s2 (same_l s1 h))
        have q2 := hz ws (same_l s2 (same_l s1 h2))
        rw [ev] at q1
        rw [ew] at q2
        cases q1; cases q2
        have st := Step.laid (o := HO.tup [v, w]) s2 hT
        exact ⟨_, st, Rep.tupL upd_same (.cons ((rv.mono s1).mono st.ss) (.cons ((rw'.mono s1).mono st.ss) .nil))⟩
  stop := fun S1 H1 s1 s2 => ⟨vs, ws, same_l s2 (same_l s1 h), same_l s2 (same_l s1 h2), by rw [zipD_length, r.len, r2.len]; omega⟩
theorem walk_zT {K : PySem.W.Frag} {mg : Str → Option Value} {S : Hp} {a b : Addr} {vs ws : List V} {ds es : List D} (r : RepL K mg S vs ds) (r2 : RepL K mg S ws es) (h : SqT K S a vs) (h2 : SqT K S b ws) : WalkD K mg (RZ.ItzT K a b) S (zipD ds es) where
  go := fun i d S1 H1 e s1 s2 => by
    rw [zipD_at] at e
    cases ed : ds[i]? with
    | none => rw [ed] at e; cases e
    | some d0 =>
      cases ee : es[i]? with
      | none => rw [ed, ee] at e; cases e
      | some e0 =>
        rw [ed, ee] at e
        cases e
        obtain ⟨v, ev, rv⟩ := r.get ed
        obtain ⟨w, ew, rw'⟩ := r2.get ee
        refine ⟨⟨vs, ws, v, w, same_t s2 (same_t s1 h), same_t s2 (same_t s1 h2), ev, ew⟩, fun x H2 ⟨T, y, z, e1, hT, e2, hy, hz⟩ => ?_⟩
        subst e1 e2
        have q1 := hy vs (same_t s2 (same_t s1 h))
        have q2 := hz ws (same_t s2 (same_t s1 h2))
        rw [ev] at q1
        rw [ew] at q2
        cases q1; cases q2
        have st := Step.laid (o := HO.tup [v, w]) s2 hT
        exact ⟨_, st, Rep.tupL upd_same (.cons ((rv.mono s1).mono st.ss) (.cons ((rw'.mono s1).mono st.ss) .nil))⟩
  stop := fun S1 H1 s1 s2 => ⟨vs, ws, same_t s2 (same_t s1 h), same_t s2 (same_t s1 h2), by rw [zipD_length, r.len, r2.len]; omega⟩
theorem dZip_ok {ds xs : List D} (h : dZip ds = .ok xs) : ∃ as bs, xs = zipD as bs ∧ (ds = [.lst as, .lst bs] ∨ ds = [.tup as, .tup bs]) := by
  unfold dZip at h
  split at h
  · cases h; exact ⟨_, _, rfl, .inl rfl⟩
  · cases h; exact ⟨_, _, rfl, .inr rfl⟩
  · cases h
theorem dZip_ex {ds : List D} {c : Str} {fs : List (Str × D)} : dZip ds ≠ .ex c fs := by
  unfold dZip
  split <;> exact fun z => nomatch z
theorem ji_zip (ha : JA X E m [a, b] fs) (hm : X.mg "zip" = none) (hg : Gl X "zip" := by rfl) (hs : starEach [a, b] X.env = (false, eval a X.env) :: starEach [b] X.env := by rfl) (hpl : (backTo pos (starEach [b] X.env)).any (·.1) = false := by rfl) : JI X E m (.Tuple elts kk tpos) (.Call (.Name "zip" p) [a, b] [] pos) (fZip fs) := by
  refine ⟨⟨fun pins s σ H R I h => (RZ.pi_zipA hg hm ha.pa hs hpl).run pins s σ H R I ?_⟩⟩
  obtain ⟨S, ρ, hm, hp⟩ := h
  refine ⟨S, ρ, hm, (PostW.bind hp).imp fun ds S1 H1 s1 k vs rv => ?_⟩
  obtain ⟨xs, e, k⟩ := PostW.okOf k fun _ _ => dZip_ex
  obtain ⟨as, bs, rfl, hd⟩ := dZip_ok e
  rcases hd with rfl | rfl
  · obtain ⟨v, w, rfl, rd, re⟩ := repl2 rv
    obtain ⟨a1, v1, rfl, h1, r1⟩ := rd.of_lst
    obtain ⟨a2, v2, rfl, h2, r2⟩ := re.of_lst
    exact ⟨a1, a2, v1, v2, rfl, .inl ⟨.inl (.inl (s1.sub _ _ h1)), .inl (.inl (s1.sub _ _ h2)), k S1 H1 (Step.refl s1.sub) _ (walk_z r1 r2 (.inl (.inl h1)) (.inl (.inl h2)))⟩⟩
  · obtain ⟨v, w, rfl, rd, re⟩ := repl2 rv
    obtain ⟨a1, v1, rfl, h1, r1⟩ := rd.of_tup
    obtain ⟨a2, v2, rfl, h2, r2⟩ := re.of_tup
    exact ⟨a1, a2, v1, v2, rfl, .inr ⟨same_t s1.sub h1, same_t s1.sub h2, k S1 H1 (Step.refl s1.sub) _ (walk_zT r1 r2 h1 h2)⟩⟩
end
end Da
namespace Da
open PySem PySem.Spec L2
def lookF : List Str → List D → Str → Option D
  | n :: ns, d :: ds, f => if n = f then some d else lookF ns ds f
  | _, _, _ => none
def dFld (c f : Str) : D → Res D
  | .obj c' ns ds => if c' = c then (match lookF ns ds f with
    | some d => .ok d
    | none => .er) else .er
  | _ => .er
/-- the class c has nothing called f: its instances' own f is read and stored -/
def FldAt (K : PySem.W.Frag) (mg : Str → Option Value) (c f : Str) : Prop := ∀ C, mg c = some (.ref C) → Cls K C ∧ NoAttr K C f
section
variable {K : PySem.W.Frag} {mg : Str → Option Value} {S H : Hp}
theorem Rep.of_obj {v : V} {c : Str} {ns : List Str} {ds : List D} (h : Rep K mg S v (.obj c ns ds)) : ∃ a C dx fs, v = .ref a ∧ S a = some (.ins C dx fs) ∧ mg c = some (.ref C) ∧ ns = fs.map (·.1) ∧ RepL K mg S (fs.map (·.2)) ds := by
  cases h with
  | obj h hm hl hi =>
    refine ⟨_, _, _, _, rfl, h, hm, rfl, by rw [List.length_map]; exact hl, fun i v d a b => ?_⟩
    rw [List.getElem?_map] at a
    cases e : (_ : List (Str × V))[i]? with
    | none => rw [e] at a; cases a
    | some p => rw [e] at a; cases a; exact hi i p d e b
theorem lookF_ok : ∀ {fs : List (Str × V)} {ds : List D} {f : Str}, RepL K mg S (fs.map (·.2)) ds → (lookF (fs.map (·.1)) ds f = none ∧ fs.lookup f = none) ∨ ∃ d v, lookF (fs.map (·.1)) ds f = some d ∧ fs.lookup f = some v ∧ Rep K mg S v d
  | [], ds, f, r => .inl ⟨by cases ds <;> rfl, rfl⟩
  | p :: fs, [], f, r => by have := r.len; simp at this
  | p :: fs, d :: ds, f, r => by
    rw [List.map_cons] at r
    by_cases e : p.1 = f
    · refine .inr ⟨d, p.2, ?_, ?_, r.head⟩
      · show (if p.1 = f then some d else _) = _
        rw [if_pos e]
      · obtain ⟨n, v⟩ := p
        rw [List.lookup_cons, show (f == n) = true from by simp [show n = f from e]]
    · have ih := lookF_ok (f := f) r.tail
      have q : lookF ((p :: fs).map (·.1)) (d :: ds) f = lookF (fs.map (·.1)) ds f := by
        show (if p.1 = f then some d else _) = _
        rw [if_neg e]
      have q2 : (p :: fs).lookup f = fs.lookup f := by
        obtain ⟨n, v⟩ := p
        rw [List.lookup_cons, show (f == n) = false from by simp; exact fun z => e z.symm]
      rw [q, q2]
      exact ih
/-- a field stored, its place kept or at the end -/
def putN (f : Str) : List Str → List Str
  | [] => [f]
  | g :: r => if g = f then g :: r else g :: putN f r
def putD (f : Str) (d : D) : List Str → List D → List D
  | g :: ns, x :: ds => if g = f then d :: ds else x :: putD f d ns ds
  | _, ds => ds ++ [d]
theorem putF_ok {f : Str} {v : V} {d : D} (h : Rep K mg S v d) : ∀ {fs : List (Str × V)} {ds : List D}, RepL K mg S (fs.map (·.2)) ds → (putF f v fs).map (·.1) = putN f (fs.map (·.1)) ∧ RepL K mg S ((putF f v fs).map (·.2)) (putD f d (fs.map (·.1)) ds)
  | [], ds, r => by
    have : ds = [] := r.nil_iff.mp rfl
    subst this
    exact ⟨rfl, .cons h .nil⟩
  | p :: fs, [], r => by have := r.len; simp at this
  | (g, x) :: fs, y :: ds, r => by
    rw [List.map_cons] at r
    obtain ⟨i1, i2⟩ := putF_ok h r.tail
    by_cases e : g = f
    · refine ⟨?_, ?_⟩
      · show ((if g = f then (g, v) :: fs else (g, x) :: putF f v fs).map (·.1)) = (if g = f then g :: fs.map (·.1) else g :: putN f (fs.map (·.1)))
        rw [if_pos e, if_pos e]
        rfl
      · show RepL K mg S ((if g = f then (g, v) :: fs else (g, x) :: putF f v fs).map (·.2)) (if g = f then d :: ds else y :: putD f d (fs.map (·.1)) ds)
        rw [if_pos e, if_pos e]
        exact .cons h r.tail
    · refine ⟨?_, ?_⟩
      · show ((if g = f then (g, v) :: fs else (g, x) :: putF f v fs).map (·.1)) = (if g = f then g :: fs.map (·.1) else g :: putN f (fs.map (·.1)))
        rw [if_neg e, if_neg e, List.map_cons, i1]
      · show RepL K mg S ((if g = f then (g, v) :: fs else (g, x) :: putF f v fs).map (·.2)) (if g = f then d :: ds else y :: putD f d (fs.map (·.1)) ds)
        rw [if_neg e, if_neg e, List.map_cons]
        exact .cons r.head i2
end
section
variable {X : Cx} {E : WX} {L : Lp} {m : Mds} {a e : Expr} {fa f : Env → Res D} {pos p1 p2 : Pos} {c x : Str} {fn : Str}
theorem je_fld (c : Str) (F : FldAt X.K X.mg c fn) (ha : JE X E m .sh a fa) (hb : attributeBase a fn X.env (eval a X.env) = eval a X.env := by rfl) : JE X E m .sh (.Attribute a fn pos) (f1 (dFld c fn) fa) := by
  refine ⟨PEimp (pe_fld ha.pe hb) fun σ H Q h => ?_⟩
  obtain ⟨S, ρ, hm, hp⟩ := h
  refine ⟨S, ρ, hm, (Post.bind hp).post fun d v S1 H1 s1 r k => ?_⟩
  cases d with
  | obj c' ns ds =>
    have k2 : Post X.K X.mg (WE E σ) S1 H1 .sh (if c' = c then (match lookF ns ds fn with
      | some d => .ok d
      | none => .er) else .er) Q := k
    by_cases ec : c' = c
    · rw [if_pos ec] at k2
      subst ec
      obtain ⟨q, C, dx, fs, rfl, hq, hC, rfl, rv⟩ := r.of_obj
      obtain ⟨cl, na⟩ := F C hC
      rcases lookF_ok (f := fn) rv with ⟨e1, _⟩ | ⟨d, w, e1, e2, rw'⟩
      · rw [e1] at k2; exact k2.elim
      · rw [e1] at k2
        exact ⟨q, C, dx, fs, w, rfl, s1.sub _ _ hq, cl, na, e2, Post.val k2 s1.sub rw'⟩
    · rw [if_neg ec] at k2
      exact k2.elim
  | _ => exact k.elim
/-- .. of the object under way in slot i -/
theorem je_fldO (c : Str) (i : Nat) (F : FldAt X.K X.mg c fn) {q : Addr} (hmd : mdAt m i = .ob q := by rfl) (hN : X.N[i]? = some x := by rfl) (hv : Vis X.env.scope x := by first | exact Or.inl rfl | exact Or.inr (Or.inl rfl) | exact Or.inr (Or.inr rfl))
    (hd : (x == ("__debug__" : Str)) = false := by decide) (hcd : (x == ("__classdict__" : Str)) = false := by decide) (hb : attributeBase (.Name x p1) fn X.env (eval (.Name x p1) X.env) = eval (.Name x p1) X.env := by rfl) : JE X E m .sh (.Attribute (.Name x p1) fn pos) (f1 (dFld c fn) (fV i)) := by
  refine ⟨PEimp (pe_fld (pe_var hN hv hd hcd) hb) fun σ H Q h => ?_⟩
  obtain ⟨S, ρ, ⟨hs, Fp, en⟩, hp⟩ := h
  unfold f1 fV at hp
  split at hp
  · rename_i d ed
    obtain ⟨v, e1, o⟩ := en.at_ i d ed
    rw [hmd] at o
    obtain ⟨dx, C, c', fs, ds, rfl, rfl, _, _, _, hC, hq, _, rv⟩ := o
    have k2 : Post X.K X.mg (WE E σ) S H .sh (if c' = c then (match lookF (fs.map (·.1)) ds fn with
      | some d => .ok d
      | none => .er) else .er) Q := hp
    by_cases ec : c' = c
    · rw [if_pos ec] at k2
      subst ec
      obtain ⟨cl, na⟩ := F C hC
      rcases lookF_ok (f := fn) rv with ⟨e2, _⟩ | ⟨d, w, e2, e3, rw'⟩
      · rw [e2] at k2; exact k2.elim
      · rw [e2] at k2
        exact ⟨_, e1, q, C, dx, fs, w, rfl, hq, cl, na, e3, Post.val k2 hs rw'⟩
    · rw [if_neg ec] at k2
      exact k2.elim
  · exact hp.elim
/-- self.f = e -/
def fFld (c fn : Str) (i : Nat) (f : Env → Res D) : FS := fun ρ => match ρ[i]? with
  | some (some (.obj c' ns ds)) => if c' = c ∧ ns.length < 100 then lift (f ρ) ρ fun d => .ok (.nx (ρ.set i (some (.obj c' (putN fn ns) (putD fn d ns ds))))) else .er
  | _ => .er
/-- the object of slot i is written -/
theorem StF.writeO {K : PySem.W.Frag} {mg : Str → Option Value} {S0 H0 S H : Hp} {Fp : Nat → List Addr} {σ : L2.St} {ρ : Env} {i : Nat} {d0 : D} {p dx C : Addr} {c : Str} {gs : List (Str × V)} {ys : List D} (st : StF K mg m S0 H0 S Fp σ ρ H) (hmd : mdAt m i = .ob p) (hρ : ρ[i]? = some (some d0))
    (hp : Fp i = [p, dx]) (hσ : σ[i]? = some (some (.ref p))) (sp : S p = none) (sd : S dx = none) (hC : mg c = some (.ref C)) (hdx : H dx = some (.own p)) (r : RepL K mg S (gs.map (·.2)) ys) : StF K mg m S0 H0 S Fp σ (ρ.set i (some (.obj c (gs.map (·.1)) ys))) (upd H p (.ins C dx gs)) := by
  obtain ⟨s, e, nw⟩ := st
  have hil : i < ρ.length := (List.getElem?_eq_some_iff.mp hρ).1
  have h0 : H0 p = none := nw i _ hρ p (by rw [hp]; exact List.mem_cons_self)
  have hne : dx ≠ p := fun z => by
    have := e.nd i _ hρ
    rw [hp, z] at this
    simp at this
  have key : ∀ j d', (ρ.set i (some (.obj c (gs.map (·.1)) ys)))[j]? = some (some d') → (j = i ∧ d' = .obj c (gs.map (·.1)) ys) ∨ (j ≠ i ∧ ρ[j]? = some (some d')) := fun j d' ej => by
    by_cases hj : j = i
    · subst hj
      rw [List.getElem?_set_self hil] at ej
      injection ej with z; injection z with z
      exact .inl ⟨rfl, z.symm⟩
    · rw [List.getElem?_set_ne (Ne.symm hj)] at ej
      exact .inr ⟨hj, ej⟩
  have same : ∀ {B : Hp}, Same B H → B p = none → Same B (upd H p (.ins C dx gs)) := fun hB hb a o ea => by
    rw [upd_ne (ne_of_none ea hb)]
    exact hB a o ea
  refine ⟨⟨same s.hh h0, s.ss, same s.sub sp, s.new⟩, ⟨by rw [List.length_set]; exact e.len, fun j d' ej => ?_, fun j d' ej => ?_, fun j k d1 d2 hjk e1 e2 => ?_⟩, fun j d' ej => ?_⟩
  · rcases key j d' ej with ⟨rfl, rfl⟩ | ⟨hj, ej'⟩
    · refine ⟨_, hσ, ?_⟩
      rw [hmd]
      exact ⟨dx, C, c, gs, ys, rfl, rfl, hp, sp, sd, hC, upd_same, by rw [upd_ne hne]; exact hdx, r⟩
    · obtain ⟨w, e1, o1⟩ := e.at_ j d' ej'
      exact ⟨w, e1, o1.other sp fun z => e.apart i j _ d' (Ne.symm hj) hρ ej' p (by rw [hp]; exact List.mem_cons_self) z⟩
  · rcases key j d' ej with ⟨rfl, rfl⟩ | ⟨hj, ej'⟩
    · exact e.nd _ _ hρ
    · exact e.nd j d' ej'
  · have live : ∀ j d', (ρ.set i (some (.obj c (gs.map (·.1)) ys)))[j]? = some (some d') → ∃ d'', ρ[j]? = some (some d'') := fun j d' ej => by
      rcases key j d' ej with ⟨rfl, _⟩ | ⟨_, ej'⟩
      · exact ⟨_, hρ⟩
      · exact ⟨_, ej'⟩
    obtain ⟨d1', h1⟩ := live j d1 e1
    obtain ⟨d2', h2⟩ := live k d2 e2
    exact e.apart j k d1' d2' hjk h1 h2
  · rcases key j d' ej with ⟨rfl, rfl⟩ | ⟨hj, ej'⟩
    · exact nw _ _ hρ
    · exact nw j d' ej'
theorem js_fld (c : Str) (i : Nat) (F : FldAt X.K X.mg c fn) (he : JE X E m .sh e f) {q : Addr} (hmd : mdAt m i = .ob q := by rfl) (hN : X.N[i]? = some x := by rfl) (hv : Vis X.env.scope x := by first | exact Or.inl rfl | exact Or.inr (Or.inl rfl) | exact Or.inr (Or.inr rfl))
    (hd : (x == ("__debug__" : Str)) = false := by decide) (hcd : (x == ("__classdict__" : Str)) = false := by decide) (hs : swapsWith e (some (.Attribute (.Name x p1) fn p2)) pos.line X.env = pure false := by rfl) :
    JS X E L m m (.Assign [.Attribute (.Name x p1) fn p2] e pos) (fFld c fn i f) := by
  refine ⟨PSimp (ps_fld (pe_var hN hv hd hcd) he.pe hs) fun D σ H h => ?_⟩
  obtain ⟨S0, H0, ρ, ⟨S, Fp, st⟩, p⟩ := h
  unfold fFld at p
  split at p
  · rename_i c' ns ds exs
    by_cases hc : c' = c ∧ ns.length < 100
    · rw [if_pos hc] at p
      obtain ⟨rfl, hl⟩ := hc
      refine ⟨S, ρ, st.envM, (lift_post st p).post fun d v S1 H1 s1 r k => ?_⟩
      have st1 := st.step s1
      obtain ⟨w, e1, o⟩ := st1.2.1.at_ i _ exs
      rw [hmd] at o
      obtain ⟨dx, C, c2, gs, ys, rfl, ed, e3, e4, e5, e6, e7, e8, e9⟩ := o
      cases ed
      obtain ⟨cl, na⟩ := F C e6
      obtain ⟨k1, k2⟩ := putF_ok (f := fn) r e9
      refine ⟨_, e1, q, C, dx, gs, rfl, e7, cl, na, by rw [List.length_map] at hl; omega, ?_⟩
      have w := st1.writeO (gs := putF fn v gs) (ys := putD fn d (gs.map (·.1)) ds) hmd exs e3 e1 e4 e5 e6 e8 k2
      rw [k1] at w
      exact k σ _ w.stM
    · rw [if_neg hc] at p
      exact p.elim
  · exact p.elim
end
end Da
namespace Da
open PySem PySem.Spec L2
/-- what an __init__ promises: the new object at p, told by f of the arguments -/
def spI (K : PySem.W.Frag) (mg : Str → Option Value) (np : Nat) (c : Str) (f : List D → Res D) : Sp := fun vs H Q E => ∃ (S : Hp) (p dx C : Addr) (us : List V) (ds : List D), vs = .ref p :: us ∧ Same S H ∧ S p = none ∧ S dx = none ∧ dx ≠ p ∧ mg c = some (.ref C) ∧ H p = some (.ins C dx []) ∧ H dx = some (.own p) ∧ RepL K mg S us ds ∧ ds.length = np ∧
  (match f ds with
  | .ok d => ∀ S' H' fp, Step S (fun a => if a = p ∨ a = dx then none else H a) S' H' → OwnAt K mg S' H' fp (.ref p) d (.ob p) → fp.Nodup → (∀ a, a ∈ fp → a = p ∨ a = dx ∨ H a = none) → Q .non H'
  | .ex c fs => ∀ S' H' cls dd, Step S (fun a => if a = p ∨ a = dx then none else H a) S' H' → ExcAt K mg S' H' cls dd c fs → E cls dd H'
  | .er => False)
/-- the run of an __init__ -/
def runI (n : Nat) (c : Str) (F : FS) (ds : List D) : Res D := match F (some (.obj c [] []) :: (ds.map some ++ List.replicate (n - 1 - ds.length) none)) with
  | .ok (.nx ρ) => (match ρ[0]? with
    | some (some d) => .ok d
    | _ => .er)
  | .ok (.xc c fs _) => .ex c fs
  | _ => .er
section
variable {P : Program} {w : World} {K : PySem.W.Frag} {mg : Str → Option Value} {base : Heap}
theorem fn_okI {x qual c : Str} {st : Stmt} {f : Addr} {fd : FuncData} {N ps : List Str} {k np : Nat} {F : FS} (Fn : Fun K x qual st f fd) (Sc : FnScope N ps (defScope st)) (hnp : ps.length ≤ N.length) (hps : ps.length = np + 1)
    (h : ∀ (p : Addr) (cdv : Value) (A : Around) (outer : List PySem.Env) (s : Shared) (H : Hp) (E : XK), Room k (A.deeper (PyProof.Rows.envOfC qual (defScope st) s.heap.objs.size f cdv)) →
      JSs (cxOf (L2.CX P w) P w K mg base N qual (defScope st) f cdv A outer s H E) (fun cls d _ H => E cls d H) ⟨[], [], .dt⟩ (.ob p :: msh (N.length - 1)) (.ob p :: msh (N.length - 1)) (defBody st) F) :
    FnOk P w K mg base (L2.CX P w) (k + 1) f fd ps (spI K mg np c (runI N.length c F)) := by
  refine Fn.okX Sc (fun vs H Q E hsp => ?_) (fun cdv A outer s H vs Q E hr hsp => ?_)
  · obtain ⟨S, p, dx, C, us, ds, rfl, _, _, _, _, _, _, _, rv, hl, _⟩ := hsp
    rw [List.length_cons, rv.len, hl, hps]
  · obtain ⟨S, p, dx, C, us, ds, rfl, hs, sp, sd, hne, hC, hp, hd, rv, hl, hq⟩ := hsp
    have hN : N.length = np + 1 + (N.length - 1 - np) := by omega
    let H0 : Hp := fun a => if a = p ∨ a = dx then none else H a
    have h0 : ∀ a, (a = p ∨ a = dx) → H0 a = none := fun a z => if_pos z
    have h0H : Same H0 H := fun a o e => by
      have e : (if a = p ∨ a = dx then none else H a) = some o := e
      split at e
      · cases e
      · exact e
    have ml : ∀ j, j ≠ 0 → mdAt (.ob p :: msh (N.length - 1)) j = .sh := fun j hj => by
      obtain ⟨i, rfl⟩ : ∃ i, j = i + 1 := ⟨j - 1, by omega⟩
      show mdAt (msh _) i = .sh
      exact mdAt_msh
    let Fp : Nat → List Addr := fun i => if i = 0 then [p, dx] else []
    refine ⟨_, (h p cdv A outer s H E hr).ps, S, H0, some (.obj c [] []) :: (ds.map some ++ List.replicate (N.length - 1 - ds.length) none), ⟨S, Fp, ⟨h0H, Same.refl _, hs, fun _ z => .inl z⟩, ⟨?_, fun i d e => ?_, fun i d e => ?_, fun i j d e hij e1 e2 a ha => ?_⟩, fun i d e a ha => ?_⟩, ?_⟩
    · unfold L2.start
      rw [List.length_append, List.length_cons, List.length_append, List.length_map, List.length_map, List.length_replicate, List.length_replicate, List.length_cons, rv.len]
      omega
    · cases i with
      | zero =>
        rw [List.getElem?_cons_zero] at e
        have e : D.obj c [] [] = d := by injection e with e; injection e
        subst e
        refine ⟨.ref p, ?_, ?_⟩
        · unfold L2.start
          rfl
        · exact ⟨dx, C, c, [], [], rfl, rfl, rfl, sp, sd, hC, hp, hd, .nil⟩
      | succ i =>
        rw [List.getElem?_cons_succ] at e
        by_cases hi : i < ds.length
        · rw [List.getElem?_append_left (by rw [List.length_map]; exact hi), List.getElem?_map, List.getElem?_eq_getElem hi] at e
          have e' : ds[i] = d := by injection e with e; injection e
          obtain ⟨v, ev, r⟩ := rv.get (List.getElem?_eq_getElem hi)
          refine ⟨v, ?_, ?_⟩
          · unfold L2.start
            rw [List.map_cons, List.cons_append, List.getElem?_cons_succ, List.getElem?_append_left (by rw [List.length_map, rv.len]; exact hi), List.getElem?_map, ev]
            rfl
          · rw [ml _ (by omega), ← e']
            exact ⟨r, rfl⟩
        · rw [List.getElem?_append_right (by rw [List.length_map]; omega), List.getElem?_replicate] at e
          split at e <;> cases e
    · cases i with
      | zero =>
        show [p, dx].Nodup
        simp
        exact fun z => hne z.symm
      | succ i => exact List.nodup_nil
    · cases i with
      | zero =>
        cases j with
        | zero => exact absurd rfl hij
        | succ j => exact fun z => nomatch z
      | succ i => cases ha
    · cases i with
      | zero =>
        have : a = p ∨ a = dx := by simpa [Fp] using ha
        exact h0 a this
      | succ i => cases ha
    · unfold runI at hq
      cases ef : F (some (.obj c [] []) :: (ds.map some ++ List.replicate (N.length - 1 - ds.length) none)) with
      | ok o =>
        rw [ef] at hq
        cases o with
        | nx ρ =>
          intro σ' H' ⟨S', F', st'⟩
          simp only at hq
          cases e0 : ρ[0]? with
          | none => rw [e0] at hq; exact hq.elim
          | some d0 =>
            cases d0 with
            | none => rw [e0] at hq; exact hq.elim
            | some d =>
              rw [e0] at hq
              obtain ⟨v, _, o⟩ := st'.2.1.at_ 0 d e0
              have o : OwnAt K mg S' H' (F' 0) v d (.ob p) := o
              have ev : v = .ref p := by
                obtain ⟨_, _, _, _, _, e, _⟩ := o
                exact e
              subst ev
              refine hq S' H' (F' 0) st'.1 o (st'.2.1.nd 0 d e0) fun a ha => ?_
              have := st'.2.2 0 d e0 a ha
              by_cases z : a = p ∨ a = dx
              · rcases z with z | z
                · exact .inl z
                · exact .inr (.inl z)
              · have this : (if a = p ∨ a = dx then none else H a) = none := this
                rw [if_neg z] at this
                exact .inr (.inr this)
        | rt d => exact hq.elim
        | bk ρ => exact hq.elim
        | ct ρ => exact hq.elim
        | xc c fs ρ => exact fun σ' S' F' H' cls dd st' x' => hq S' H' cls dd st'.1 x'
      | ex c fs => rw [ef] at hq; exact hq.elim
      | er => rw [ef] at hq; exact hq.elim
end
section
variable {X : Cx} {E : WX} {m : Mds} {e o : Expr} {es : List Expr} {fs : Env → Res (List D)} {p pos apos : Pos} {c mn : Str} {k np : Nat} {f C : Addr} {fd : FuncData} {ps : List Str} {g : List D → Res D} {fa : Env → Res D}
/-- the class of this name makes its objects by g -/
def KeepsI (P : Program) (w : World) (K : PySem.W.Frag) (mg : Str → Option Value) (base : Heap) (c : Str) (k : Nat) (ps : List Str) (np : Nat) (g : List D → Res D) : Prop :=
  ∃ C f fd, mg c = some (.ref C) ∧ Mk K C f ∧ Binds K fd ps [] ∧ FnOk P w K mg base (L2.CX P w) k f fd ps (spI K mg np c g)
theorem make_run {E : XK} {sp : Sp} {pins : List (Addr × Obj)} {σ : L2.St} {H : Hp} {s : Shared} {Q : VK} {us : List Value} {vs : List V} (M : Mk X.K C f) (F : FnOk X.prog X.w X.K X.mg X.base (L2.CX X.prog X.w) k f fd ps sp) (hr : Room (k + 1) X.A) (hb : Binds X.K fd ps []) (hx : PassesAt (L2.CX X.prog X.w) X σ E) (I : Inv X pins σ H s) (rv : Vals vs us)
    (h : ∀ x dx, H x = none → H dx = none → dx ≠ x → sp (.ref x :: vs) (upd (upd H dx (.own x)) x (.ins C dx [])) (fun v H2 => v = .non ∧ Q (.ref x) H2) E) : wpAny (model X.prog X.w) X.A (call (.ref C) us) (EP X pins σ Q) X.xe s := by
  have n1 := I.hok.fresh (Nat.le_succ s.heap.objs.size)
  have n2 := I.hok.fresh (Nat.le_refl s.heap.objs.size)
  have hq := h (s.heap.objs.size + 1) s.heap.objs.size n1 n2 (Nat.ne_of_lt (Nat.lt_succ_self _))
  have J := Inv.made (C := C) I
  have rr : Vals (V.ref (s.heap.objs.size + 1) :: vs) (Value.ref (s.heap.objs.size + 1) :: us) := .cons rfl rv
  have hl : (Value.ref (s.heap.objs.size + 1) :: us).length = ps.length := rr.length.symm.trans (F.len _ _ _ _ hq)
  have bnd := hb _ (Value.ref (s.heap.objs.size + 1) :: us) J.kIn (by rw [List.append_nil]; exact hl)
  rw [List.append_nil] at bnd
  refine wpAny_call (make_map (f := f) I.kIn M.makes M.init (beq_iff_eq.mp M.fn) (codeAny_mono (F.run _ X.stack _ _ ⟨Value.ref (s.heap.objs.size + 1) :: us, []⟩ _ _ _ E (hr.make C us []) (J.env0.make C us []) bnd rr hq) fun fin s' hf => ?_))
  cases fin with
  | error u => exact hx pins _ _ u s' J hf
  | ok fl =>
    cases fl with
    | ret u =>
      obtain ⟨v, H', I3, ru, ev, q3⟩ := J.after hf
      subst ev
      exact ⟨ru, V.ref (s.heap.objs.size + 1), H', I3, rfl, q3⟩
    | _ => exact hf.elim
theorem je_make (G : KeepsI X.prog X.w X.K X.mg X.base c k ps np g) (hr : Room (k + 1) X.A) (tk : Takes X E) (ha : JA X E m (e :: es) fs) (hg : Gl X c := by rfl) (hdb : (c == ("__debug__" : Str)) = false := by decide)
    (he : starEach (e :: es) X.env = (false, eval e X.env) :: starEach es X.env := by rfl) (hpl : (backTo pos (starEach es X.env)).any (·.1) = false := by rfl) : JE X E m .sh (.Call (.Name c p) (e :: es) [] pos) (fOn (chk np g) fs) := by
  obtain ⟨C, f, fd, hC, M, hb, F⟩ := G
  refine ⟨⟨fun pins s σ H Q I h => ?_⟩⟩
  obtain ⟨S, ρ, hm, hp⟩ := h
  refine wpAny_Call_Name_kw (ld_glob I hg hC ?_ hdb)
  refine PySem.W.callWith_K (h₀ := X.base) I.ok.mod.kin M.kp (thn (ha.pa.run pos pins s σ H _ I ⟨S, ρ, hm, (Post.bind hp).imp fun ds S1 H1 s1 k1 => ?_⟩) fun us s1 ⟨vs, H1, I1, r, q⟩ => ⟨I1.kIn, make_run (E := WE E σ) (sp := spI X.K X.mg np c g) M F hr hb (passAt tk σ) I1 r q⟩) he hpl
  intro vs rs x dx hx hdx hne
  obtain ⟨hl, k1⟩ := k1.chkd
  have sx : S1 x = none := s1.sub.free hx
  have sd : S1 dx = none := s1.sub.free hdx
  have same : ∀ {B : Hp}, Same B H1 → Same B (upd (upd H1 dx (.own x)) x (.ins C dx [])) := fun hB a o ea => by
    have ea' := hB a o ea
    rw [upd_ne (ne_of_none ea' hx), upd_ne (ne_of_none ea' hdx)]
    exact ea'
  refine ⟨S1, x, dx, C, vs, ds, rfl, same s1.sub, sx, sd, hne, hC, upd_same, by rw [upd_ne hne, upd_same], rs, hl, ?_⟩
  have back : ∀ {S' H' : Hp}, Step S1 (fun a => if a = x ∨ a = dx then none else upd (upd H1 dx (.own x)) x (.ins C dx []) a) S' H' → Step S1 H1 S' H' := fun {S' H'} st => by
    refine ⟨fun a o ea => st.hh a o ?_, st.ss, st.sub, fun a ha => ?_⟩
    · show (if a = x ∨ a = dx then none else upd (upd H1 dx (.own x)) x (.ins C dx []) a) = some o
      have na : ¬ (a = x ∨ a = dx) := fun z => by
        rcases z with z | z
        · rw [z, hx] at ea; cases ea
        · rw [z, hdx] at ea; cases ea
      rw [if_neg na]
      exact same (Same.refl H1) a o ea
    · rcases st.new a ha with z | z
      · exact .inl z
      · have z : (if a = x ∨ a = dx then none else upd (upd H1 dx (.own x)) x (.ins C dx []) a) = none := z
        by_cases na : a = x ∨ a = dx
        · rcases na with rfl | rfl
          · exact .inr hx
          · exact .inr hdx
        · rw [if_neg na] at z
          refine .inr ?_
          rw [upd_ne (fun y => na (.inl y)), upd_ne (fun y => na (.inr y))] at z
          exact z
  cases eg : g ds with
  | ok d =>
    rw [eg] at k1
    intro S' H' fp st o hn hf
    refine ⟨rfl, ?_⟩
    -- the object is shared from here on
    have st' := back st
    let A : Addr → Prop := fun a => a ∈ fp
    have ho : ∀ a, A a → S' a = none := fun a ha => (o.out ha).1
    refine k1 (.ref x) (take S' H' A) H' [] ⟨st'.hh, st'.ss.trans (take_same st'.sub ho), take_sub st'.sub, fun a y => ?_⟩ ⟨o.shared st'.sub ho fun a ha => ha, rfl⟩ List.nodup_nil (fun a z => nomatch z)
    by_cases z : A a
    · rcases hf a z with q | q | q
      · rw [q]; exact .inr hx
      · rw [q]; exact .inr hdx
      · refine .inr ?_
        cases e1 : H1 a with
        | none => rfl
        | some u => rw [same (Same.refl H1) a u e1] at q; cases q
    · rw [take_out z] at y
      exact st'.new a y
  | ex c' fs' =>
    rw [eg] at k1
    exact fun S' H' cls dd st x' => k1 S' H' cls dd (back st) x'
  | er => rw [eg] at k1; exact k1.elim
/-- the method mn of the class c does what g does -/
def KeepsM (P : Program) (w : World) (K : PySem.W.Frag) (mg : Str → Option Value) (base : Heap) (c mn : Str) (k : Nat) (ps : List Str) (np : Nat) (md : Md) (g : List D → Res D) : Prop :=
  ∃ C f fd, mg c = some (.ref C) ∧ Cls K C ∧ Meth K C mn f ∧ Binds K fd ps [] ∧ FnOk P w K mg base (L2.CX P w) k f fd ps (spD K mg np md g)
/-- o.m(..): the object's class, no field of that name -/
def fMeth (c mn : Str) (np : Nat) (g : List D → Res D) (fa : Env → Res D) (fs : Env → Res (List D)) : Env → Res D := fun ρ => (fa ρ).bind fun x => match x with
  | .obj c' ns ds => if c' = c ∧ lookF ns ds mn = none then (fs ρ).bind fun ys => chk np g (x :: ys) else .er
  | _ => .er
theorem tMeth_ok {md : Md} (G : ∀ C, X.mg c = some (.ref C) → Cls X.K C) {σ : L2.St} {H : Hp} {Q : VK} (h : tE X.K X.mg E m md (fMeth c mn np g fa fs) σ H Q) :
    tE X.K X.mg E m .sh fa σ H fun x H1 => ∃ a dx gs C, x = .ref a ∧ X.mg c = some (.ref C) ∧ H1 a = some (.ins C dx gs) ∧ gs.lookup mn = none ∧ tA X.K X.mg E m fs σ H1 fun vs H2 => spD X.K X.mg np md g (x :: vs) H2 Q (WE E σ) := by
  obtain ⟨S, ρ, hm, hp⟩ := h
  refine ⟨S, ρ, hm, (Post.bind hp).post fun d v S1 H1 s1 r k => ?_⟩
  cases d with
  | obj c' ns ds =>
    have k2 : Post X.K X.mg (WE E σ) S1 H1 md (if c' = c ∧ lookF ns ds mn = none then (fs ρ).bind fun ys => chk np g (.obj c' ns ds :: ys) else .er) Q := k
    by_cases hc : c' = c ∧ lookF ns ds mn = none
    · rw [if_pos hc] at k2
      obtain ⟨ec, hl⟩ := hc
      obtain ⟨q, C, dx, gs, ev, hq, hC, en, rv⟩ := r.of_obj
      rw [ec] at hC
      refine ⟨q, dx, gs, C, ev, hC, s1.sub _ _ hq, ?_, S1, ρ, hm.step s1, (Post.bind k2).imp fun ys S2 H2 s2 k3 vs rs => ⟨S2, _, s2.sub, .cons (r.mono s2.ss) rs, k3⟩⟩
      rw [en] at hl
      rcases lookF_ok (f := mn) rv with ⟨_, e2⟩ | ⟨d, w, e1, _, _⟩
      · exact e2
      · rw [e1] at hl; cases hl
    · rw [if_neg hc] at k2
      exact k2.elim
  | _ => exact k.elim
theorem je_meth0 {md : Md} {pl : Sem Bool} (G : KeepsM X.prog X.w X.K X.mg X.base c mn k ps np md g) (hr : Room k X.A) (tk : Takes X E) (ho : JE X E m .sh o fa)
    (ht : eval (.Call (.Attribute o mn apos) [] [] pos) X.env = (do
      let ov ← eval o X.env
      standAt apos.atName
      let (f, first) ← holding [ov] (getMethod ov mn pl)
      callWith pos f first (backTo pos (starEach [] X.env)) (backToKw pos (keywordEach [] X.env))) := by rfl) : JE X E m md (.Call (.Attribute o mn apos) [] [] pos) (fMeth c mn np g fa fA0) := by
  obtain ⟨C, f, fd, hC, cl, me, hb, F⟩ := G
  refine ⟨⟨fun pins s σ H Q I h => ?_⟩⟩
  have h := tMeth_ok (fun C' hC' => by rw [hC] at hC'; injection hC' with z; injection z with z; rw [← z]; exact cl) h
  refine PySem.W.methodCall_KW (pl := pl) (thn (ho.pe.run pins s σ H _ I h) fun u s1 ⟨x, H1, I1, rx, a, dx, gs, C', ex, hC', ea, l, q⟩ => ?_) ht
  rw [hC] at hC'
  injection hC' with z
  injection z with z
  subst z ex
  obtain rfl : u = Value.ref a := rx
  obtain ⟨S, ρ, hm, hp⟩ := q
  exact getmeth_ok I1 ea cl me l (PySem.W.callWith_K0 (first := [.ref a]) I1.kIn me.kp (run_fnS (us := [.ref a]) (vs := [.ref a]) F hr hb (passAt tk σ) I1 (.cons rfl .nil) (hp S H1 (Step.refl hm.1) [] .nil)))
end
end Da
namespace Da
open PySem PySem.Spec L2
/-- the j-th statement of a class -/
def inCls (s : Stmt) (j : Nat) : Stmt := match s with
  | .ClassDef _ _ _ body _ _ _ _ _ _ _ => body.getD j (.Pass ⟨0, 0, 0, 0⟩)
  | _ => .Pass ⟨0, 0, 0, 0⟩
def InitAt (K : PySem.W.Frag) (mg : Str → Option Value) (c qual : Str) (st : Stmt) (ps : List Str) : Prop := ∃ C f fd, mg c = some (.ref C) ∧ Mk K C f ∧ Fun K "__init__" qual st f fd ∧ Binds K fd ps []
def MethAt (K : PySem.W.Frag) (mg : Str → Option Value) (c mn qual : Str) (st : Stmt) (ps : List Str) : Prop := ∃ C f fd, mg c = some (.ref C) ∧ Cls K C ∧ Meth K C mn f ∧ Fun K mn qual st f fd ∧ Binds K fd ps []
section
variable {P : Program} {w : World} {K : PySem.W.Frag} {mg : Str → Option Value} {base h : Heap} {c mn qual : Str} {st : Stmt} {ps N : List Str} {k np : Nat} {md : Md} {F : FS} {f C : Addr} {oc : Value} {od an : Option Addr} {osl : Array (Option Value)} {kV doc pm cdv ct : Value}
theorem keepsI_of (dA : InitAt K mg c qual st ps) (Sc : FnScope N ps (defScope st)) (hnp : ps.length ≤ N.length) (hps : ps.length = np + 1)
    (h : ∀ (f p : Addr) (cdv : Value) (A : Around) (outer : List PySem.Env) (s : Shared) (H : Hp) (E : XK), Room k (A.deeper (PyProof.Rows.envOfC qual (defScope st) s.heap.objs.size f cdv)) →
      JSs (cxOf (L2.CX P w) P w K mg base N qual (defScope st) f cdv A outer s H E) (fun cls d _ H => E cls d H) ⟨[], [], .dt⟩ (.ob p :: msh (N.length - 1)) (.ob p :: msh (N.length - 1)) (defBody st) F) : KeepsI P w K mg base c (k + 1) ps np (runI N.length c F) := by
  obtain ⟨C, f, fd, hC, M, Fn, bd⟩ := dA
  exact ⟨C, f, fd, hC, M, bd, fn_okI Fn Sc hnp hps (h f)⟩
theorem keepsM_of (dA : MethAt K mg c mn qual st ps) (Sc : FnScope N ps (defScope st)) (hnp : ps.length ≤ N.length)
    (h : ∀ (f : Addr) (cdv : Value) (A : Around) (outer : List PySem.Env) (s : Shared) (H : Hp) (E : XK), Room k (A.deeper (PyProof.Rows.envOfC qual (defScope st) s.heap.objs.size f cdv)) →
      JSs (cxOf (L2.CX P w) P w K mg base N qual (defScope st) f cdv A outer s H E) (fun cls d _ H => E cls d H) ⟨[], [], md⟩ (msh N.length) (msh N.length) (defBody st) F) : KeepsM P w K mg base c mn (k + 1) ps ps.length md (runF N.length md F) := by
  obtain ⟨C, f, fd, hC, cl, me, Fn, bd⟩ := dA
  exact ⟨C, f, fd, hC, cl, me, bd, fn_ok Fn Sc hnp (h f)⟩
theorem cls_mk (pg : PySem.W.plainGet K C Str.empty = true) (hd : PySem.W.hasDictIn K C = true) (po : PySem.W.plainOver K C = true) (sa : PySem.W.findIn K (.ref C) "__setattr__" = some (some (.builtin "object.__setattr__"))) : Cls K C := ⟨pg, hd, po, sa⟩
theorem fldAt_mk {fn : Str} (X : K.In h) (G : h.Ns mainGlobals mg) (a : PySem.W.nsIn K mainGlobals c = some (some (.ref C))) (cl : Cls K C) (n : PySem.W.findIn K (.ref C) fn = some none) : FldAt K mg c fn := fun C' hC' => by
  rw [PySem.W.mg_of X G a] at hC'
  injection hC' with z
  injection z with z
  rw [← z]
  exact ⟨cl, n⟩
theorem initAt_mk (X : K.In h) (G : h.Ns mainGlobals mg) (a : PySem.W.nsIn K mainGlobals c = some (some (.ref C))) (m1 : PySem.W.makesIn K C = true) (m2 : PySem.W.findIn K (.ref C) "__init__" = some (some (.ref f))) (m3 : PySem.W.isFn K (.ref f) = true) (m4 : PySem.W.keepIn K (.ref C) = true)
    (l : K.lookup f = some ⟨oc, od, .func (PySem.W.fnOf "__init__" qual (defArgs st) (defBody st) (defScope st) .none kV doc pm an cdv ct), osl⟩) (cd : PySem.W.codeIn K cdv qual = true) (kf : PySem.W.keepIn K (.ref f) = true)
    (hb : ∀ (kV doc pm : Value) (an : Option Addr) (cdv ct : Value) (us : List Value), us.length = ps.length → bindArgs (PySem.W.fnOf "__init__" qual (defArgs st) (defBody st) (defScope st) .none kV doc pm an cdv ct) ⟨us, []⟩ = pure (ps.zip us)) : InitAt K mg c qual st ps := by
  have Fn := fun_mk (st := st) l cd kf
  exact ⟨C, f, _, PySem.W.mg_of X G a, ⟨m1, m2, m3, m4⟩, Fn, Fn.binds hb⟩
theorem methAt_mk (X : K.In h) (G : h.Ns mainGlobals mg) (a : PySem.W.nsIn K mainGlobals c = some (some (.ref C))) (cl : Cls K C) (m2 : PySem.W.findIn K (.ref C) mn = some (some (.ref f))) (m3 : PySem.W.isFn K (.ref f) = true)
    (l : K.lookup f = some ⟨oc, od, .func (PySem.W.fnOf mn qual (defArgs st) (defBody st) (defScope st) .none kV doc pm an cdv ct), osl⟩) (cd : PySem.W.codeIn K cdv qual = true) (kf : PySem.W.keepIn K (.ref f) = true)
    (hb : ∀ (kV doc pm : Value) (an : Option Addr) (cdv ct : Value) (us : List Value), us.length = ps.length → bindArgs (PySem.W.fnOf mn qual (defArgs st) (defBody st) (defScope st) .none kV doc pm an cdv ct) ⟨us, []⟩ = pure (ps.zip us)) : MethAt K mg c mn qual st ps := by
  have Fn := fun_mk (st := st) l cd kf
  exact ⟨C, f, _, PySem.W.mg_of X G a, cl, ⟨m2, m3, kf⟩, Fn, Fn.binds hb⟩
end
def PropAt (K : PySem.W.Frag) (mg : Str → Option Value) (c mn qual : Str) (st : Stmt) (ps : List Str) : Prop := ∃ C q f fd, mg c = some (.ref C) ∧ Cls K C ∧ PropOf K C mn q f ∧ Fun K mn qual st f fd ∧ Binds K fd ps []
def KeepsP (P : Program) (w : World) (K : PySem.W.Frag) (mg : Str → Option Value) (base : Heap) (c mn : Str) (k : Nat) (ps : List Str) (g : List D → Res D) : Prop :=
  ∃ C q f fd, mg c = some (.ref C) ∧ Cls K C ∧ PropOf K C mn q f ∧ Binds K fd ps [] ∧ FnOk P w K mg base (L2.CX P w) k f fd ps (spD K mg 1 .sh g)
def dProp (c : Str) (g : List D → Res D) : D → Res D
  | .obj c' ns ds => if c' = c then (match chk 1 g [.obj c' ns ds] with
    | .ok d => .ok d
    | _ => .er) else .er
  | _ => .er
section
variable {P : Program} {w : World} {K : PySem.W.Frag} {mg : Str → Option Value} {base h : Heap} {c mn qual : Str} {st : Stmt} {ps N : List Str} {k np : Nat} {F : FS} {f C q : Addr} {oc : Value} {od an : Option Addr} {osl : Array (Option Value)} {kV doc pm cdv ct : Value}
theorem keepsP_of (dA : PropAt K mg c mn qual st ps) (Sc : FnScope N ps (defScope st)) (hnp : ps.length ≤ N.length) (hps : ps.length = 1)
    (h : ∀ (f : Addr) (cdv : Value) (A : Around) (outer : List PySem.Env) (s : Shared) (H : Hp) (E : XK), Room k (A.deeper (PyProof.Rows.envOfC qual (defScope st) s.heap.objs.size f cdv)) →
      JSs (cxOf (L2.CX P w) P w K mg base N qual (defScope st) f cdv A outer s H E) (fun cls d _ H => E cls d H) ⟨[], [], .sh⟩ (msh N.length) (msh N.length) (defBody st) F) : KeepsP P w K mg base c mn (k + 1) ps (runF N.length .sh F) := by
  obtain ⟨C, q, f, fd, hC, cl, pr, Fn, bd⟩ := dA
  have G := fn_ok Fn Sc hnp (h f)
  rw [hps] at G
  exact ⟨C, q, f, fd, hC, cl, pr, bd, G⟩
theorem propAt_mk (X : K.In h) (G : h.Ns mainGlobals mg) (a : PySem.W.nsIn K mainGlobals c = some (some (.ref C))) (cl : Cls K C) (m1 : PySem.W.findIn K (.ref C) mn = some (some (.ref q))) (m2 : PySem.W.specialIn K (.ref q) "__get__" = some (some (.builtin "property.__get__"))) (m3 : PySem.W.takesIn K (.ref q) = some true) {rest : List Value} (m4 : PySem.W.recIn K q "property" = some (.ref f :: rest))
    (l : K.lookup f = some ⟨oc, od, .func (PySem.W.fnOf mn qual (defArgs st) (defBody st) (defScope st) .none kV doc pm an cdv ct), osl⟩) (cd : PySem.W.codeIn K cdv qual = true) (kf : PySem.W.keepIn K (.ref f) = true)
    (hb : ∀ (kV doc pm : Value) (an : Option Addr) (cdv ct : Value) (us : List Value), us.length = ps.length → bindArgs (PySem.W.fnOf mn qual (defArgs st) (defBody st) (defScope st) .none kV doc pm an cdv ct) ⟨us, []⟩ = pure (ps.zip us)) : PropAt K mg c mn qual st ps := by
  have Fn := fun_mk (st := st) l cd kf
  exact ⟨C, q, f, _, PySem.W.mg_of X G a, cl, ⟨m1, m2, m3, _, m4⟩, Fn, Fn.binds hb⟩
end
section
variable {X : Cx} {E : WX} {m : Mds} {e : Expr} {fa : Env → Res D} {pos : Pos} {c mn : Str} {k : Nat} {ps : List Str} {g : List D → Res D}
theorem passN : Passes (L2.CX X.prog X.w) X.nox (fun _ _ _ => False) := fun _ _ _ _ _ _ _ z => by
  obtain ⟨_, _, _, _, _, _, _, _, _, _, _, _, z⟩ := z
  exact z.elim
theorem je_prop (G : KeepsP X.prog X.w X.K X.mg X.base c mn k ps g) (hr : Room (k + 1) X.A) (ha : JE X E m .sh e fa) (hb : attributeBase e mn X.env (eval e X.env) = eval e X.env := by rfl) : JE X E m .sh (.Attribute e mn pos) (f1 (dProp c g) fa) := by
  obtain ⟨C, q, f, fd, hC, cl, pr, bd, F⟩ := G
  refine ⟨PEimp (pe_prop ha.pe cl pr F hr bd .nil passN hb) fun σ H Q h => ?_⟩
  obtain ⟨S, ρ, hm, hp⟩ := h
  refine ⟨S, ρ, hm, (Post.bind hp).post fun d v S1 H1 s1 r k1 => ?_⟩
  cases d with
  | obj c' ns ds =>
    have k2 : Post X.K X.mg (WE E σ) S1 H1 .sh (if c' = c then (match chk 1 g [.obj c' ns ds] with
      | .ok d => .ok d
      | _ => .er) else .er) Q := k1
    by_cases ec : c' = c
    · rw [if_pos ec] at k2
      obtain ⟨a, C', dx, fs, ev, hq, hC', en, rv⟩ := id r.of_obj
      rw [ec, hC] at hC'
      injection hC' with z
      injection z with z
      refine ⟨a, dx, fs, ev, by rw [z]; exact s1.sub _ _ hq, S1, [.obj c' ns ds], s1.sub, .cons (by rw [← ev]; exact r) .nil, ?_⟩
      cases eg : chk 1 g [.obj c' ns ds] with
      | ok d => rw [eg] at k2; exact k2
      | ex c2 fs2 => rw [eg] at k2; exact k2.elim
      | er => rw [eg] at k2; exact k2.elim
    · rw [if_neg ec] at k2
      exact k2.elim
  | _ => exact k1.elim
end
end Da
namespace Da
open PySem PySem.Spec L2
def F_law_gcd : FS := (fSeq (fSet 2 (fOn (on1 dAbs) (fA (fOn (on1 dInt) (fA (fV 0) fA0)) fA0)))
    (fSeq (fSet 3 (fOn (on1 dAbs) (fA (fOn (on1 dInt) (fA (fV 1) fA0)) fA0)))
    (fSeq (fFor (fR1 (fA (fC (.int 1000000)) fA0)) (gN 4) (fSeq (fIfS (fB (f2 dEq (fV 3) (fC (.int 0)))) fBrk fNext)
    (fSeq (fSet 5 (f2 dMod (fOn (on1 dInt) (fA (fV 2) fA0)) (fV 3)))
    (fSeq (fSet 2 (fV 3))
    (fSet 3 (fV 5))))))
    (fRet (fV 2)))))
def m_law_gcd : List D → Res D := runF 6 .sh F_law_gcd
def pw2 (n : Nat) : Nat := 2 ^ n
theorem pw2_succ (n : Nat) : pw2 (n + 1) = pw2 n * 2 := by unfold pw2; exact Nat.pow_succ 2 n
theorem pw2_0 : pw2 0 = 1 := rfl
def GLim : Nat := pw2 999999
theorem half_step {x y : Nat} (h : y < x) (h0 : 0 < y) : y * (x % y) * 2 ≤ x * y := by
  have h1 := Nat.mod_lt x h0
  have h2 := Nat.div_add_mod x y
  have h3 : 1 ≤ x / y := Nat.div_pos (Nat.le_of_lt h) h0
  have h4 : y * 1 ≤ y * (x / y) := Nat.mul_le_mul_left y h3
  have h5 : x % y * 2 ≤ x := by omega
  calc y * (x % y) * 2 = y * (x % y * 2) := Nat.mul_assoc _ _ _
    _ ≤ y * x := Nat.mul_le_mul_left y h5
    _ = x * y := Nat.mul_comm _ _
end Da
namespace Da
open PySem PySem.Spec L2
def F_law_fraction (rec : List D → Res D) : FS := (fSeq (fIfS (fB (f2 dLt (fV 1) (fC (.int 0)))) (fRet (fOn (chk 2 rec) (fA (f1 dNeg (fV 0)) (fA (f1 dNeg (fV 1)) fA0)))) fNext)
    (fSeq (fSet 2 (fOn (chk 2 m_law_gcd) (fA (fV 0) (fA (fV 1) fA0))))
    (fRet (fOn gTupD (fA (f2 dDiv (fV 0) (fV 2)) (fA (f2 dDiv (fV 1) (fV 2)) fA0))))))
def r_law_fraction : Nat → List D → Res D
  | 0 => fun _ => .er
  | n + 1 => runF 3 .sh (F_law_fraction (r_law_fraction n))
def m_law_fraction : List D → Res D := r_law_fraction 6
def F_law_added : FS := (fRet (fOn (chk 2 m_law_fraction) (fA (f2 dAdd (f2 dMul (f2 dIx (fV 0) (fC (.int 0))) (f2 dIx (fV 1) (fC (.int 1)))) (f2 dMul (f2 dIx (fV 1) (fC (.int 0))) (f2 dIx (fV 0) (fC (.int 1))))) (fA (f2 dMul (f2 dIx (fV 0) (fC (.int 1))) (f2 dIx (fV 1) (fC (.int 1)))) fA0))))
def m_law_added : List D → Res D := runF 2 .sh F_law_added
def F_ratio : FS := (fSeq (fIfS (fB (f2 dEq (fV 1) (fC (.int 0)))) (fun _ => .er) fNext)
    (fSeq (fSet 2 (fOn (on2 dGcd) (fA (fV 0) (fA (fV 1) fA0))))
    (fSeq (fIfS (fB (f2 dLt (fV 1) (fC (.int 0)))) (fSet 2 (f1 dNeg (fV 2))) fNext)
    (fRet (fOn gTupD (fA (f2 dDiv (fV 0) (fV 2)) (fA (f2 dDiv (fV 1) (fV 2)) fA0)))))))
def m_ratio : List D → Res D := runF 3 .sh F_ratio
def F_added : FS := (fRet (fOn (chk 2 m_ratio) (fA (f2 dAdd (f2 dMul (f2 dIx (fV 0) (fC (.int 0))) (f2 dIx (fV 1) (fC (.int 1)))) (f2 dMul (f2 dIx (fV 1) (fC (.int 0))) (f2 dIx (fV 0) (fC (.int 1))))) (fA (f2 dMul (f2 dIx (fV 0) (fC (.int 1))) (f2 dIx (fV 1) (fC (.int 1)))) fA0))))
def m_added : List D → Res D := runF 2 .sh F_added
/-- the fraction t/b in its lowest terms, as a pair -/
def frac (t b : Int) : D := .tup [.int (t / Int.gcd t b), .int (b / Int.gcd t b)]
theorem glim {a b : Int} (ha : a.natAbs < Lim) (hb : b.natAbs < Lim) : a.natAbs * b.natAbs < GLim := by
  have h : a.natAbs * b.natAbs < Lim * Lim := Nat.mul_lt_mul'' ha hb
  refine Nat.lt_of_lt_of_le h ?_
  unfold Lim GLim pw2
  rw [← Nat.pow_add]
  exact Nat.pow_le_pow_right (by decide) (by decide)
theorem gcd_pos' {t b : Int} (hb : 0 < b) : 0 < (Int.gcd t b : Int) := by
  have : 0 < Int.gcd t b := Int.gcd_pos_of_ne_zero_right t (by omega)
  omega
theorem gcd_lim {t b : Int} (hb : 0 < b) (hb' : b.natAbs < Lim) : ((Int.gcd t b : Int)).natAbs < Lim := by
  have h : Int.gcd t b ≤ b.natAbs := Nat.le_of_dvd (by omega) (Nat.gcd_dvd_right _ _)
  rw [Int.natAbs_natCast]
  exact Nat.lt_of_le_of_lt h hb'
/-- the number q as the program's pair -/
def frQ (q : Rat) : D := .tup [.int q.num, .int (q.den : Int)]
theorem frac_eq {t b : Int} (hb : 0 < b) : frac t b = frQ ((t : Rat) / (b : Rat)) := by
  have hn : b ≠ 0 := by omega
  rw [frQ, ← Rat.divInt_eq_div, Rat.num_divInt, Rat.den_divInt, if_neg hn, Int.sign_eq_one_of_pos hb, Int.one_mul, Int.gcd_comm b t, frac]
  rw [Int.natCast_ediv, Int.natAbs_of_nonneg (Int.le_of_lt hb)]
theorem rat_eq (q : Rat) : q = (q.num : Rat) / ((q.den : Int) : Rat) := by
  rw [← Rat.divInt_eq_div, Rat.divInt_ofNat, Rat.mkRat_self]
theorem den_ne (q : Rat) : ((q.den : Int) : Rat) ≠ 0 := by
  have := q.den_nz
  intro h
  exact this (by exact_mod_cast h)
theorem add_eq (p q : Rat) : (((p.num * (q.den : Int) + q.num * (p.den : Int) : Int)) : Rat) / (((p.den : Int) * (q.den : Int) : Int) : Rat) = p + q := by
  have hp := rat_eq p
  have hq := rat_eq q
  have h1 := den_ne p
  have h2 := den_ne q
  rw [Rat.intCast_add, Rat.intCast_mul, Rat.intCast_mul, Rat.intCast_mul]
  generalize (p.num : Rat) = a at *
  generalize ((p.den : Int) : Rat) = b at *
  generalize (q.num : Rat) = c at *
  generalize ((q.den : Int) : Rat) = d at *
  rw [hp, hq]
  grind
/-- small enough to add two of them -/
def Sm (q : Rat) : Prop := q.num.natAbs < 2 ^ 4400 ∧ q.den < 2 ^ 4400
theorem pow_lim : (2 : Nat) ^ 8800 + 2 ^ 8800 ≤ Lim := by
  unfold Lim
  rw [← Nat.two_mul, Nat.mul_comm, ← Nat.pow_succ]
  exact Nat.pow_le_pow_right (by decide) (by decide)
theorem mul_lim {a b : Nat} (ha : a < 2 ^ 4400) (hb : b < 2 ^ 4400) : a * b < 2 ^ 8800 := by
  have h := Nat.mul_lt_mul'' ha hb
  rw [← Nat.pow_add] at h
  exact h
theorem sum_lim {a b c d : Int} (ha : a.natAbs < 2 ^ 4400) (hb : b.natAbs < 2 ^ 4400) (hc : c.natAbs < 2 ^ 4400) (hd : d.natAbs < 2 ^ 4400) : (a * b + c * d).natAbs < Lim := by
  have h1 := mul_lim ha hb
  have h2 := mul_lim hc hd
  rw [← Int.natAbs_mul] at h1 h2
  have h3 := Int.natAbs_add_le (a * b) (c * d)
  exact Nat.lt_of_lt_of_le (Nat.lt_of_le_of_lt h3 (Nat.add_lt_add h1 h2)) pow_lim
theorem den_pos (p q : Rat) : 0 < (p.den : Int) * (q.den : Int) := Int.mul_pos (by have := p.den_pos; omega) (by have := q.den_pos; omega)
theorem den_lim {p q : Rat} (hp : Sm p) (hq : Sm q) : ((p.den : Int) * (q.den : Int)).natAbs < Lim := by
  rw [Int.natAbs_mul, Int.natAbs_natCast, Int.natAbs_natCast]
  exact Nat.lt_of_lt_of_le (mul_lim hp.2 hq.2) (Nat.le_trans (Nat.le_add_right _ _) pow_lim)
theorem Sm.d {p : Rat} (h : Sm p) : ((p.den : Int)).natAbs < 2 ^ 4400 := by rw [Int.natAbs_natCast]; exact h.2
end Da
namespace Da
open PySem PySem.Spec L2
def F_law_sum : FS := (fSeq (fSet 1 (fOn gTupD (fA (fC (.int 0)) (fA (fC (.int 1)) fA0))))
    (fSeq (fFor (fL (fV 0)) (gN 2) (fSet 1 (fOn (chk 2 m_law_added) (fA (fV 1) (fA (fV 2) fA0)))))
    (fRet (fV 1))))
def m_law_sum : List D → Res D := runF 3 .sh F_law_sum
def F_fraction_sum : FS := (fSeq (fSet 1 (fOn gTupD (fA (fC (.int 0)) (fA (fC (.int 1)) fA0))))
    (fSeq (fFor (fL (fV 0)) (gN 2) (fSet 1 (fOn (chk 2 m_added) (fA (fV 1) (fA (fV 2) fA0)))))
    (fRet (fV 1))))
def m_fraction_sum : List D → Res D := runF 3 .sh F_fraction_sum
/-- q is some n over L, n at most B -/
def In (L B : Nat) (q : Rat) : Prop := ∃ n : Int, q = (n : Rat) / ((L : Int) : Rat) ∧ n.natAbs ≤ B
theorem In.sm {L B : Nat} {q : Rat} (h : In L B q) (h0 : 0 < L) (hL : L < 2 ^ 4400) (hB : B < 2 ^ 4400) : Sm q := by
  obtain ⟨n, e, hn⟩ := h
  have hp : (0 : Int) < (L : Int) := by omega
  have f : frac n L = frQ q := by rw [frac_eq hp, e]
  injection f with f
  injection f with f1 f2
  injection f1 with f1
  injection f2 with f2 _
  injection f2 with f2
  constructor
  · rw [← f1]
    refine Nat.lt_of_le_of_lt (Nat.le_trans ?_ hn) hB
    exact Int.natAbs_ediv_le_natAbs _ _
  · have : ((L : Int) / (Int.gcd n L : Int)) ≤ (L : Int) := Int.ediv_le_self _ (by omega)
    omega
theorem In.add {L A B : Nat} {p q : Rat} (h : In L A p) (h' : In L B q) : In L (A + B) (p + q) := by
  obtain ⟨n, rfl, hn⟩ := h
  obtain ⟨k, rfl, hk⟩ := h'
  refine ⟨n + k, ?_, Nat.le_trans (Int.natAbs_add_le n k) (Nat.add_le_add hn hk)⟩
  rw [Rat.intCast_add]
  grind
theorem In.zero {L : Nat} : In L 0 0 := ⟨0, by grind, by simp⟩
def sumQ (qs : List Rat) : Rat := qs.foldl (· + ·) 0
theorem sumQ_snoc (qs : List Rat) (q : Rat) : sumQ (qs ++ [q]) = sumQ qs + q := by unfold sumQ; rw [List.foldl_append]; rfl
theorem In.sum {L B : Nat} {qs : List Rat} (h : ∀ q ∈ qs, In L B q) (n : Nat) : In L (n * B) (sumQ (qs.take n)) := by
  induction n with
  | zero => simp [sumQ]; exact In.zero
  | succ n ih =>
    cases e : qs[n]? with
    | none =>
      have : qs.take (n + 1) = qs.take n := by
        rw [List.take_of_length_le, List.take_of_length_le] <;> have := List.getElem?_eq_none_iff.mp e <;> omega
      rw [this]
      obtain ⟨k, ek, hk⟩ := ih
      exact ⟨k, ek, Nat.le_trans hk (Nat.mul_le_mul_right B (Nat.le_succ n))⟩
    | some q =>
      rw [List.take_succ, e, Option.toList_some, sumQ_snoc, Nat.succ_mul]
      exact ih.add (h q (List.mem_of_getElem? e))
end Da
namespace Da
open PySem PySem.Spec L2
def F_law_same (rec : List D → Res D) : FS := (fSeq (fIfS (fOr (fTr (f1 (dIsi "tuple") (fV 1))) (fTr (f1 (dIsi "list") (fV 1)))) (fSeq (fIfS (fOr (fNot (fTr (f1 (dIsi "tuple") (fV 0)))) (fB (f2 dNe (fOn (on1 dLen) (fA (fV 0) fA0)) (fOn (on1 dLen) (fA (fV 1) fA0))))) (fRet (fC (.bl false))) fNext)
    (fSeq (fFor (fR1 (fA (fOn (on1 dLen) (fA (fV 1) fA0)) fA0)) (gN 2) (fIfS (fNot (fTr (fOn (chk 2 rec) (fA (f2 dIx (fV 0) (fV 2)) (fA (f2 dIx (fV 1) (fV 2)) fA0))))) (fRet (fC (.bl false))) fNext))
    (fRet (fC (.bl true))))) fNext)
    (fSeq (fIfS (fB (f1 dIsN (fV 1))) (fRet (f1 dIsN (fV 0))) fNext)
    (fSeq (fIfS (fB (f1 (dIsB true) (fV 1))) (fRet (f1 (dIsB true) (fV 0))) fNext)
    (fSeq (fIfS (fB (f1 (dIsB false) (fV 1))) (fRet (f1 (dIsB false) (fV 0))) fNext)
    (fSeq (fIfS (fTr (f1 (dIsi "str") (fV 1))) (fRet (fBv (fAnd (fB (f1 (dIsi "str") (fV 0))) (fB (f2 dEq (fV 0) (fV 1)))))) fNext)
    (fRet (fBv (fAnd (fB (fOn (chk 1 m_law_whole) (fA (fV 0) fA0))) (fB (f2 dEq (fV 0) (fV 1)))))))))))
def r_law_same : Nat → List D → Res D
  | 0 => fun _ => .er
  | n + 1 => runF 3 .sh (F_law_same (r_law_same n))
def m_law_same : List D → Res D := r_law_same 6
theorem In.mono {L A B : Nat} {q : Rat} (h : In L A q) (hab : A ≤ B) : In L B q := by
  obtain ⟨n, e, hn⟩ := h
  exact ⟨n, e, Nat.le_trans hn hab⟩
theorem In.of {t b : Int} {L : Nat} (k : Nat) (hb : 0 < b) (h0 : 0 < L) (hk : b * k = L) : In L (t.natAbs * k) ((t : Rat) / (b : Rat)) := by
  refine ⟨t * k, ?_, by rw [Int.natAbs_mul, Int.natAbs_natCast]; exact Nat.le_refl _⟩
  have hkn : (k : Int) ≠ 0 := by
    intro h
    rw [h, Int.mul_zero] at hk
    omega
  have h1 : ((k : Int) : Rat) ≠ 0 := by exact_mod_cast hkn
  have h2 : (b : Rat) ≠ 0 := by exact_mod_cast (show b ≠ 0 by omega)
  rw [← hk, Rat.intCast_mul, Rat.intCast_mul]
  generalize ((k : Int) : Rat) = x at *
  generalize (b : Rat) = y at *
  generalize (t : Rat) = z at *
  grind
end Da
namespace Da
open PySem PySem.Spec L2
end Da
namespace Da
open PySem PySem.Spec L2
end Da
namespace Da
open PySem PySem.Spec L2
end Da
namespace Da
open PySem PySem.Spec L2
end Da
namespace Da
open PySem PySem.Spec L2
end Da
namespace Da
open PySem PySem.Spec L2
def Rf {α β : Type} (m : Res β) (r : Res α) (e : α → β) : Prop := match r with
  | .ok v => m = .ok (e v)
  | .ex c fs => m = .ex c fs
  | .er => True
section
variable {α β γ δ : Type} {m : Res β} {r : Res α} {e : α → β} {k : β → Res δ} {h : α → Res γ} {o : γ → δ} {v : α}
theorem rf_ok (h : m = .ok (e v)) : Rf m (.ok v) e := h
theorem b_p {d : β} {r : Res γ} (hm : m = .ok d) (hk : Rf (k d) r o) : Rf (m.bind k) r o := by rw [hm]; exact hk
theorem b_i (hm : Rf m r e) (hk : ∀ x, Rf (k (e x)) (h x) o) : Rf (m.bind k) (r.bind h) o := by
  cases r with
  | ok v => rw [show m = _ from hm]; exact hk v
  | ex c fs => rw [show m = _ from hm]; exact rfl
  | er => exact trivial
/-- without exceptions -/
def nx {α : Type} (r : Res α) : Res α := match r with
  | .ok v => .ok v
  | _ => .er
@[simp] theorem nx_ok {α : Type} {v : α} : nx (.ok v) = .ok v := rfl
theorem rf_use {v : α} (hm : Rf m r e) (hr : r = .ok v) : m = .ok (e v) := by rw [hr] at hm; exact hm
end
section
variable {α γ δ : Type} {ρ : Env} {fa : Env → Res D} {fs : Env → Res (List D)} {k : List D → Res δ} {o : γ → δ}
theorem a_0 {r : Res γ} (h : Rf (k []) r o) : Rf ((fA0 ρ).bind k) r o := h
theorem a_p {d : D} {r : Res γ} (ha : fa ρ = .ok d) (h : Rf ((fs ρ).bind fun xs => k (d :: xs)) r o) : Rf ((fA fa fs ρ).bind k) r o := by
  show Rf (((fa ρ).bind _).bind k) r o
  rw [ha]
  show Rf (((fs ρ).bind fun xs => .ok (d :: xs)).bind k) r o
  revert h
  cases fs ρ <;> exact id
theorem a_i {ra : Res α} {ea : α → D} {h : α → Res γ} (ha : Rf (fa ρ) ra ea) (hk : ∀ x, Rf ((fs ρ).bind fun xs => k (ea x :: xs)) (h x) o) : Rf ((fA fa fs ρ).bind k) (ra.bind h) o := by
  cases ra with
  | ok v => exact a_p ha (hk v)
  | ex c fs' =>
    show ((fa ρ).bind _).bind k = _
    rw [show fa ρ = _ from ha]
    rfl
  | er => exact trivial
end
section
variable {ρ : Env} {fa fb f : Env → Res D} {g : D → Res D} {g2 : D → D → Res D} {c ca cb : Env → Res Bool} {x y z : D} {a b : Bool}
theorem ev1 (ha : fa ρ = .ok x) (hg : g x = .ok z) : f1 g fa ρ = .ok z := by unfold f1; rw [ha]; exact hg
theorem ev2 (ha : fa ρ = .ok x) (hb : fb ρ = .ok y) (hg : g2 x y = .ok z) : f2 g2 fa fb ρ = .ok z := by unfold f2; rw [ha]; show (fb ρ).bind _ = _; rw [hb]; exact hg
theorem evB (ha : f ρ = .ok (.bl a)) : fB f ρ = .ok a := by unfold fB; rw [ha]; rfl
theorem evBv (ha : c ρ = .ok a) : fBv c ρ = .ok (.bl a) := by unfold fBv; rw [ha]; rfl
theorem evTr (ha : f ρ = .ok x) (ht : trD x = .ok a) : fTr f ρ = .ok a := by unfold fTr; rw [ha]; exact ht
theorem evNot (ha : c ρ = .ok a) : fNot c ρ = .ok (!a) := by unfold fNot; rw [ha]; rfl
theorem evAndF (ha : ca ρ = .ok false) : fAnd ca cb ρ = .ok false := by unfold fAnd; rw [ha]; rfl
theorem evAndT (ha : ca ρ = .ok true) (hb : cb ρ = .ok b) : fAnd ca cb ρ = .ok b := by unfold fAnd; rw [ha]; exact hb
theorem evOrT (ha : ca ρ = .ok true) : fOr ca cb ρ = .ok true := by unfold fOr; rw [ha]; rfl
theorem evOrF (ha : ca ρ = .ok false) (hb : cb ρ = .ok b) : fOr ca cb ρ = .ok b := by unfold fOr; rw [ha]; exact hb
theorem evSc (h : f ρ = .ok x) (hs : isSc x = true) : fSc f ρ = .ok x := by unfold fSc; rw [h]; show (if isSc x = true then _ else _) = _; rw [hs]; rfl
theorem evNx {α : Type} {f : Env → Res α} {x : α} (h : f ρ = .ok x) : fNx f ρ = .ok x := by unfold fNx; rw [h]
theorem evA {fs : Env → Res (List D)} {xs : List D} (ha : fa ρ = .ok x) (hs : fs ρ = .ok xs) : fA fa fs ρ = .ok (x :: xs) := by unfold fA; rw [ha]; show (fs ρ).bind _ = _; rw [hs]; rfl
theorem evOn {fs : Env → Res (List D)} {xs : List D} {g : List D → Res D} (ha : fs ρ = .ok xs) (hg : g xs = .ok z) : fOn g fs ρ = .ok z := by unfold fOn; rw [ha]; exact hg
theorem evL {xs : List D} (ha : f ρ = .ok x) (hx : asL x = .ok xs) : fL f ρ = .ok xs := by unfold fL; rw [ha]; exact hx
variable {α γ : Type} {o : γ → D} {oB : γ → Bool} {ra : Res α} {ea : α → D}
theorem rOr {rb : Res Bool} (ha : ca ρ = .ok a) (hb : Rf (cb ρ) rb (fun x => x)) : Rf (fOr ca cb ρ) (if a = true then .ok true else rb) (fun x => x) := by
  unfold fOr; rw [ha]; cases a with
  | true => exact rfl
  | false => exact hb
theorem rAndI {ra rb : Res Bool} (ha : Rf (ca ρ) ra (fun x => x)) (hb : Rf (cb ρ) rb (fun x => x)) : Rf (fAnd ca cb ρ) (ra.bind fun a => if a = true then rb else .ok false) (fun x => x) := b_i ha fun a => by
  cases a with
  | true => exact hb
  | false => exact rfl
theorem rOrI {ra rb : Res Bool} (ha : Rf (ca ρ) ra (fun x => x)) (hb : Rf (cb ρ) rb (fun x => x)) : Rf (fOr ca cb ρ) (ra.bind fun a => if a = true then .ok true else rb) (fun x => x) := b_i ha fun a => by
  cases a with
  | true => exact rfl
  | false => exact hb
theorem rNx {α : Type} {β : Type} {f : Env → Res β} {ra : Res α} {ea : α → β} (h : Rf (f ρ) ra ea) : Rf (fNx f ρ) (nx ra) ea := by
  cases ra with
  | ok v => exact evNx h
  | _ => exact trivial
end
def eL {α : Type} (e : α → D) : List α → D := fun xs => .lst (xs.map e)
def eT {α : Type} (e : α → D) : List α → D := fun xs => .tup (xs.map e)
def eF {α : Type} (e : α → D) : List α → D := fun xs => .frl (xs.map e)
def eO {α : Type} (e : α → D) : Option α → D := fun x => match x with
  | none => .non
  | some v => e v
def eN : Unit → D := fun _ => .non
def eP1 {α : Type} (e : α → D) : α → D := fun p => .tup [e p]
def eP2 {α β : Type} (e : α → D) (f : β → D) : α × β → D := fun p => .tup [e p.1, f p.2]
def eP3 {α β γ : Type} (e : α → D) (f : β → D) (g : γ → D) : α × β × γ → D := fun p => .tup [e p.1, f p.2.1, g p.2.2]
def eP4 {α β γ δ : Type} (e : α → D) (f : β → D) (g : γ → D) (h : δ → D) : α × β × γ × δ → D := fun p => .tup [e p.1, f p.2.1, g p.2.2.1, h p.2.2.2]
def eH2 {α β : Type} (e : α → D) (f : β → D) : α × β → D := fun p => .lst [e p.1, f p.2]
def eH4 {α β γ δ : Type} (e : α → D) (f : β → D) (g : γ → D) (h : δ → D) : α × β × γ × δ → D := fun p => .lst [e p.1, f p.2.1, g p.2.2.1, h p.2.2.2]
/-- own objects: by their fields' encoders -/
def eOb1 {α : Type} (c : Str) (n1 : Str) (e : α → D) : α → D := fun p => .obj c [n1] [e p]
def eOb2 {α β : Type} (c : Str) (n1 n2 : Str) (e : α → D) (f : β → D) : α × β → D := fun p => .obj c [n1, n2] [e p.1, f p.2]
def mulR (i j : Int) : Res Int := if mulOk i j = true then .ok (i * j) else .er
def divR (i j : Int) : Res Int := if 0 < j ∧ j.natAbs.log2 < 9000 then .ok (i / j) else if j < 0 ∧ j.natAbs.log2 < 9000 then .ok (-i / -j) else .er
def modR (i j : Int) : Res Int := if 0 < j then .ok (i % j) else .er
def powR (i j : Int) : Res Int := if powOk i j = true then .ok (i ^ j.toNat) else .er
def ixR {α : Type} (xs : List α) (i : Int) : Res α := match atI xs i with
  | some x => .ok x
  | none => .er
def catR {α : Type} (xs ys : List α) : Res (List α) := if szOk (xs.length + ys.length) = true then .ok (xs ++ ys) else .er
def appR {α : Type} (xs : List α) (x : α) : Res (List α) := if szOk (xs.length + 1) = true then .ok (xs ++ [x]) else .er
def repR {α : Type} (xs : List α) (k : Int) : Res (List α) := if repOk xs.length k = true then .ok (List.replicate k.toNat xs).flatten else .er
def setR {α : Type} (xs : List α) (i : Int) (x : α) : Res (List α) := match ixN xs.length i with
  | some k => .ok (xs.set k x)
  | none => .er
def popR {α : Type} (xs : List α) (i : Int) : Res (α × List α) := match ixN xs.length i with
  | some k => (match xs[k]? with
    | some y => if szOk xs.length = true then .ok (y, xs.eraseIdx k) else .er
    | none => .er)
  | none => .er
def rngI (lo : Int) (n : Nat) : List Int := (List.range n).map fun (i : Nat) => lo + (i : Int)
def rngR (j : Int) : Res (List Int) := if rngOk 0 j = true then .ok (rngI 0 j.toNat) else .er
def rng2R (i j : Int) : Res (List Int) := if rngOk i j = true then .ok (rngI i (j - i).toNat) else .er
def enumI {α : Type} (i : Nat) : List α → List (Int × α)
  | [] => []
  | x :: xs => ((i : Int), x) :: enumI (i + 1) xs
/-- comprehensions -/
def lcR {α β : Type} (xs : List α) (c : α → Res Bool) (f : α → Res β) : Res (List β) := if szOk xs.length = true then go xs else .er
where go : List α → Res (List β)
  | [] => .ok []
  | x :: xs => (nx (c x)).bind fun b => if b = true then (nx (f x)).bind fun y => (go xs).bind fun ys => .ok (y :: ys) else go xs
/-- loops -/
inductive Ctl (σ β : Type) where
  | go (s : σ) | out (s : σ) | ret (b : β)
def forR {α σ : Type} (f : σ → α → Res σ) : List α → σ → Res σ
  | [], s => .ok s
  | x :: xs, s => (f s x).bind fun s => forR f xs s
/-- with breaks and returns -/
def forC {α σ β : Type} (f : σ → α → Res (Ctl σ β)) : List α → σ → Res (Ctl σ β)
  | [], s => .ok (.go s)
  | x :: xs, s => (f s x).bind fun o => match o with
    | .go s => forC f xs s
    | .out s => .ok (.go s)
    | .ret b => .ok (.ret b)
/-- a loop's end without a return -/
def ctlS {σ β : Type} (o : Ctl σ β) : Res σ := match o with
  | .go s => .ok s
  | .out s => .ok s
  | .ret _ => .er
structure Fin {δ : Type} (K : Res Fl → Res δ) : Prop where
  xc : ∀ c fs ρ, K (.ok (.xc c fs ρ)) = .ex c fs
/-- the slots vs forgotten -/
def fgt (vs : List Nat) (m : Res Fl) : Res Fl := match m with
  | .ok (.nx ρ) => .ok (.nx (wipeD ρ vs))
  | .ok (.bk ρ) => .ok (.bk (wipeD ρ vs))
  | .ok (.ct ρ) => .ok (.ct (wipeD ρ vs))
  | m => m
def fFgt (vs : List Nat) (F : FS) : FS := fun ρ => fgt vs (F ρ)
def finS (vs : List Nat) (m : Res Fl) : Res Fl := match m with
  | .ok (.nx ρ) => .ok (.nx (wipeD ρ vs))
  | .ok (.xc c fs _) => .ex c fs
  | _ => .er
def finL (vs : List Nat) (m : Res Fl) : Res Fl := match m with
  | .ok (.nx ρ) => .ok (.nx (wipeD ρ vs))
  | .ok (.ct ρ) => .ok (.nx (wipeD ρ vs))
  | .ok (.bk ρ) => .ok (.bk (wipeD ρ vs))
  | .ok (.rt d) => .ok (.rt d)
  | .ok (.xc c fs _) => .ex c fs
  | _ => .er
def finF (md : Md) (m : Res Fl) : Res D := match m with
  | .ok (.rt d) => .ok d
  | .ok (.nx _) => if md = .sh then .ok .non else .er
  | .ok (.xc c fs _) => .ex c fs
  | _ => .er
def finI (m : Res Fl) : Res D := match m with
  | .ok (.nx ρ) => (match ρ[0]? with
    | some (some d) => .ok d
    | _ => .er)
  | .ok (.xc c fs _) => .ex c fs
  | _ => .er
theorem fin_S {vs : List Nat} : Fin (finS vs) := ⟨fun _ _ _ => rfl⟩
theorem fin_L {vs : List Nat} : Fin (finL vs) := ⟨fun _ _ _ => rfl⟩
theorem fin_F {md : Md} : Fin (finF md) := ⟨fun _ _ _ => rfl⟩
theorem fin_I : Fin finI := ⟨fun _ _ _ => rfl⟩
section
variable {α β γ δ σ : Type} {K : Res Fl → Res δ} {F G A B C : FS} {ρ ρ' : Env} {N N1 N2 : Res γ} {o : γ → δ} {r : Res α} {E : α → Env} {k : α → Res γ} {c : Env → Res Bool} {b : Bool} {f : Env → Res D} {e : α → D} {v : α} {d : D} {i : Nat}
theorem n_runF {n : Nat} {md : Md} {ds : List D} {e : γ → D} (h : Rf (finF md (F (startE n ds))) N e) : Rf (runF n md F ds) N e := h
theorem n_runI {n : Nat} {cn : Str} {ds : List D} {e : γ → D} (h : Rf (finI (F (some (.obj cn [] []) :: (ds.map some ++ List.replicate (n - 1 - ds.length) none)))) N e) : Rf (runI n cn F ds) N e := h
theorem finS_nx {vs : List Nat} {m : Res Fl} {ρ : Env} (h : finS vs m = .ok (.nx ρ)) : ∃ ρ1, m = .ok (.nx ρ1) ∧ wipeD ρ1 vs = ρ := by
  unfold finS at h
  split at h
  · cases h; exact ⟨_, rfl, rfl⟩
  · cases h
  · cases h
theorem finS_ex {vs : List Nat} {m : Res Fl} {c : Str} {fs : List (Str × D)} (h : finS vs m = .ex c fs) : ∃ ρ1, m = .ok (.xc c fs ρ1) := by
  unfold finS at h
  split at h
  · cases h
  · cases h; exact ⟨_, rfl⟩
  · cases h
theorem t_seq (hK : Fin K) (E : α → Env) (h : Rf (finS [] (F ρ)) r (fun s => .nx (E s))) (hk : ∀ s, Rf (K (G (E s))) (k s) o) : Rf (K (fSeq F G ρ)) (r.bind k) o := by
  cases r with
  | ok s =>
    obtain ⟨ρ1, e1, e2⟩ := finS_nx h
    have e2 : ρ1 = E s := e2
    subst e2
    rw [fSeq_nx e1]
    exact hk s
  | ex c fs =>
    obtain ⟨ρ1, e1⟩ := finS_ex h
    have : fSeq F G ρ = .ok (.xc c fs ρ1) := by unfold fSeq; rw [e1]
    rw [this, hK.xc]
    exact rfl
  | er => exact trivial
theorem t_seqp (ρ' : Env) (h : F ρ = .ok (.nx ρ')) (hk : Rf (K (G ρ')) N o) : Rf (K (fSeq F G ρ)) N o := by rw [fSeq_nx h]; exact hk
theorem t_end (h : Rf (K (fSeq F fNext ρ)) N o) : Rf (K (F ρ)) N o := by
  have : fSeq F fNext ρ = F ρ := by
    unfold fSeq
    split
    · rename_i e; rw [e]; rfl
    · rfl
  rw [this] at h
  exact h
theorem t_assoc (h : Rf (K (fSeq A (fSeq B C) ρ)) N o) : Rf (K (fSeq (fSeq A B) C ρ)) N o := by
  have : fSeq A (fSeq B C) ρ = fSeq (fSeq A B) C ρ := by
    show andThen (A ρ) (fSeq B C) = andThen (andThen (A ρ) B) C
    cases A ρ with
    | ok x => cases x <;> rfl
    | _ => rfl
  rw [this] at h
  exact h
theorem t_nextS (h : Rf (K (G ρ)) N o) : Rf (K (fSeq fNext G ρ)) N o := h
theorem t_next {v : γ} (h : K (.ok (.nx ρ)) = .ok (o v)) : Rf (K (fNext ρ)) (.ok v) o := h
theorem t_brk {v : γ} (h : K (.ok (.bk ρ)) = .ok (o v)) : Rf (K (fSeq fBrk G ρ)) (.ok v) o := h
theorem t_retp {v : γ} {d : D} (hf : f ρ = .ok d) (h : K (.ok (.rt d)) = .ok (o v)) : Rf (K (fSeq (fRet f) G ρ)) (.ok v) o := by
  show K (fSeq (fRet f) G ρ) = _
  have : fSeq (fRet f) G ρ = .ok (.rt d) := by unfold fSeq fRet; rw [hf]; rfl
  rw [this, h]
/-- at a def's level -/
theorem t_retF {md : Md} {e : γ → D} (hf : Rf (f ρ) N e) : Rf (finF md (fSeq (fRet f) G ρ)) N e := by
  cases N with
  | ok v => exact t_retp hf rfl
  | ex c fs =>
    have : fSeq (fRet f) G ρ = .ok (.xc c fs ρ) := by unfold fSeq fRet; rw [show f ρ = _ from hf]; rfl
    rw [this]
    exact rfl
  | er => exact trivial
theorem lift_p {α : Type} {r : Res α} {a : α} {k : α → Res Fl} (h : r = .ok a) : lift r ρ k = k a := by rw [h]; rfl
theorem t_if (hc : c ρ = .ok b) (h1 : Rf (K (fSeq A G ρ)) N1 o) (h2 : Rf (K (fSeq B G ρ)) N2 o) : Rf (K (fSeq (fIfS c A B) G ρ)) (if b = true then N1 else N2) o := by
  have : fSeq (fIfS c A B) G ρ = if b = true then fSeq A G ρ else fSeq B G ρ := by
    show andThen (lift (c ρ) ρ _) G = _
    rw [lift_p hc]
    cases b <;> rfl
  rw [this]
  cases b with
  | true => exact h1
  | false => exact h2
theorem t_ifT (hc : c ρ = .ok true) (h1 : Rf (K (fSeq A G ρ)) N o) : Rf (K (fSeq (fIfS c A B) G ρ)) N o := t_if (N2 := .er) hc h1 trivial
theorem t_ifF (hc : c ρ = .ok false) (h1 : Rf (K (fSeq B G ρ)) N o) : Rf (K (fSeq (fIfS c A B) G ρ)) N o := t_if (N1 := .er) hc trivial h1
theorem t_ifI (hK : Fin K) {rc : Res Bool} (hc : Rf (c ρ) rc (fun x => x)) (h1 : Rf (K (fSeq A G ρ)) N1 o) (h2 : Rf (K (fSeq B G ρ)) N2 o) : Rf (K (fSeq (fIfS c A B) G ρ)) (rc.bind fun b => if b = true then N1 else N2) o := by
  cases rc with
  | ok b => exact t_if hc h1 h2
  | ex cn fs =>
    have : fSeq (fIfS c A B) G ρ = .ok (.xc cn fs ρ) := by
      show andThen (lift (c ρ) ρ _) G = _
      rw [show c ρ = _ from hc]
      rfl
    rw [this, hK.xc]
    exact rfl
  | er => exact trivial
/-- single statements -/
theorem s_if {vs : List Nat} (hF : Rf (finS vs (fSeq F fNext ρ)) N1 o') : Rf (finS [] (fFgt vs F ρ)) N1 o' := by
  have h := t_end hF
  have : finS [] (fFgt vs F ρ) = finS vs (F ρ) := by
    unfold fFgt fgt finS
    cases F ρ with
    | ok x => cases x <;> rfl
    | _ => rfl
  rw [this]
  exact h
theorem s_setp (E : α → Env) (hf : f ρ = .ok (e v)) (hE : ρ.set i (some (e v)) = E v) : Rf (finS [] (fSet i f ρ)) (.ok v) (fun s => .nx (E s)) := by
  show finS [] (lift (f ρ) ρ _) = _
  rw [lift_p hf]
  show Res.ok (Fl.nx (ρ.set i (some (e v)))) = Res.ok (Fl.nx (E v))
  rw [hE]
theorem s_set (E : α → Env) (hf : Rf (f ρ) r e) (hE : ∀ v, ρ.set i (some (e v)) = E v) : Rf (finS [] (fSet i f ρ)) r (fun s => .nx (E s)) := by
  cases r with
  | ok v => exact s_setp E hf (hE v)
  | ex c fs =>
    show finS [] (lift (f ρ) ρ _) = _
    rw [show f ρ = _ from hf]
    rfl
  | er => exact trivial
end
end Da
namespace Da
open PySem PySem.Spec L2
theorem wipe_some {ρ : Env} {i : Nat} {d : D} : ∀ {vs : List Nat}, (wipeD ρ vs)[i]? = some (some d) → ρ[i]? = some (some d)
  | [], h => h
  | v :: vs, h => by
    unfold wipeD at h
    rw [List.getElem?_set] at h
    split at h
    · split at h <;> cases h
    · exact wipe_some h
theorem wipe_len {ρ : Env} : ∀ {vs : List Nat}, (wipeD ρ vs).length = ρ.length
  | [] => rfl
  | v :: vs => by unfold wipeD; rw [List.length_set, wipe_len]
section
variable {K : PySem.W.Frag} {mg : Str → Option Value} {m : Mds} {S0 H0 H : Hp} {σ : L2.St} {ρ : Env} {vs : List Nat}
theorem StM.wipe (h : StM K mg m S0 H0 σ ρ H) : StM K mg m S0 H0 σ (wipeD ρ vs) H := by
  obtain ⟨S, F, h1, h2, h3⟩ := h
  exact ⟨S, F, h1, ⟨by rw [wipe_len]; exact h2.len, fun i d e => h2.at_ i d (wipe_some e), fun i d e => h2.nd i d (wipe_some e), fun i j d e n a b => h2.apart i j d e n (wipe_some a) (wipe_some b)⟩, fun i d e => h3 i d (wipe_some e)⟩
theorem spost_fgt {E : WX} {L : Lp} {m' : Mds} {o : Res Fl} {Dn : Ends} (h : SPost K mg E L S0 H0 m' (fgt vs o) Dn) : SPost K mg E L S0 H0 m' o Dn := by
  cases o with
  | ok o =>
    cases o with
    | nx ρ => exact fun σ H s => h σ H s.wipe
    | bk ρ => exact fun σ H s => h σ H s.wipe
    | ct ρ => exact fun σ H s => h σ H s.wipe
    | rt d => exact h
    | xc c fs ρ => exact h
  | ex c fs => exact h
  | er => exact h
end
section
variable {X : Cx} {E : WX} {L : Lp} {m m' : Mds} {st : Stmt} {sts : List Stmt} {F : FS}
theorem js_fgt (vs : List Nat) (h : JS X E L m m' st F) : JS X E L m m' st (fFgt vs F) :=
  ⟨PSimp h.ps fun D σ H q => by
    obtain ⟨S0, H0, ρ, a, b⟩ := q
    exact ⟨S0, H0, ρ, a, spost_fgt b⟩⟩
theorem jss_fgt (vs : List Nat) (h : JSs X E L m m' sts F) : JSs X E L m m' sts (fFgt vs F) :=
  ⟨PSsimp h.ps fun D σ H q => by
    obtain ⟨S0, H0, ρ, a, b⟩ := q
    exact ⟨S0, H0, ρ, a, spost_fgt b⟩⟩
end
end Da
namespace Da
open PySem PySem.Spec L2
def veT : List Value := [.type "ValueError", .type "Exception", .type "BaseException", .type "object"]
/-- an own error class without an __init__ -/
def Err0 (K : PySem.W.Frag) (mg : Str → Option Value) (x : Str) : Prop := ∃ C, mg x = some (.ref C) ∧ PySem.W.excIn K C veT "ValueError.__new__" = true ∧ PySem.W.keepIn K (.ref C) = true ∧
  PySem.W.subIn K (.ref C) (.type "BaseException") = some true ∧ PySem.W.typeIn K (.ref C) = some (.type "type")
/-- raise c(..): the fields stand in the reverse of their order -/
def fRaise (c : Str) (ns : List Str) (fs : Env → Res (List D)) : FS := fun ρ => lift (fs ρ) ρ fun ds => if ds.length = ns.length then .ok (.xc c (ns.zip ds).reverse ρ) else .er
section
variable {X : Cx} {E : WX} {L : Lp} {m m' : Mds} {c : Str} {p pos p1 : Pos}
theorem pmk_none (T : Err0 X.K X.mg c) (hg : Gl X c) (hdb : (c == ("__debug__" : Str)) = false) : PMk X (.Call (.Name c p) [] [] pos) (fun _ H Q => ∀ C, X.mg c = some (.ref C) → Q (.ref C) none H) := by
  obtain ⟨C, gC, q, kC, e1, e2⟩ := T
  intro pins s σ H Q I h
  have rr : Raises X (.ref C) := raises_own e1 e2
  apply wpAny_Call_Name_kw
  refine ld_glob I hg gC ?_ hdb
  refine PySem.W.callWith_K0 I.kIn kC ?_
  show wpAny _ _ (call (.ref C) []) _ _ _
  obtain ⟨b1, b2, b3, b4, b5, b6, b7, b8, b9, b10, b11, b12, b13, b14, b15, b16, b17, o1, o2, o3, o4⟩ := exc_obj I.kIn q
  exact wpAny_call_exc_subT PySem.F.excBase_ValueError o4 o1 o2 o3 (fun h' e made => mk_of I made rr (h C gC) (I.hok.gone made.new)) (Nat.zero_le _)
theorem js_raise0 (T : Err0 X.K X.mg c) (tk : Takes X E) (hc : X.calm = true := by rfl) (hg : Gl X c := by rfl) (hdb : (c == ("__debug__" : Str)) = false := by decide) :
    JS X E L m m' (.Raise (some (.Call (.Name c p) [] [] p1)) none pos) (fRaise c [] fA0) := by
  refine ⟨PSimp (ps_raise hc tk (pmk_none T hg hdb)) fun D σ H h => ?_⟩
  obtain ⟨S0, H0, ρ, ⟨S, Fp, st⟩, q⟩ := h
  intro C gC
  obtain ⟨S2, F2, st2, ss⟩ := st.weak (Weak.nil m)
  exact q σ S2 F2 H _ none st2 ⟨gC, .inl ⟨rfl, rfl⟩⟩
end
def tInit (K : PySem.W.Frag) : List (Str × Nat) → TS
  | [] => tNext
  | q :: r => tSeq (tOst K q.1 (tVar 0) (tVar q.2)) (tInit K r)
/-- the error at a, with the fields acc stored so far -/
def Made (a C : Addr) (H0 : Hp) (acc : List (Str × V)) (H : Hp) : Prop := (acc = [] ∧ H = H0 ∧ H0 a = some (exo a C none)) ∨ ∃ d, H0 d = none ∧ d ≠ a ∧ H = upd (upd H0 d (exd d acc)) a (exo a C (some d))
theorem upd_twice {H : Hp} {a : Addr} {o u : HO} : upd (upd H a o) a u = upd H a u := by
  funext b
  by_cases h : b = a
  · rw [h, upd_same, upd_same]
  · rw [upd_ne h, upd_ne h, upd_ne h]
theorem upd_swap {H : Hp} {a b : Addr} {o u : HO} (h : a ≠ b) : upd (upd H a o) b u = upd (upd H b u) a o := by
  funext x
  by_cases hb : x = b
  · subst hb
    rw [upd_same, upd_ne (fun z => h z.symm), upd_same]
  · rw [upd_ne hb]
    by_cases ha : x = a
    · subst ha; rw [upd_same, upd_same]
    · rw [upd_ne ha, upd_ne ha, upd_ne hb]
theorem init_run {K : PySem.W.Frag} {a C : Addr} {σ : L2.St} {D : Ends} {H0 : Hp} (T : OexC K C) (hσ : σ[0]? = some (some (.ref a))) : ∀ (fj : List (Str × Nat)) (ys : List V) (acc : List (Str × V)) (H : Hp), fj.length = ys.length →
    (∀ (k : Nat) (q : Str × Nat) (y : V), fj[k]? = some q → ys[k]? = some y → σ[q.2]? = some (some y)) → (∀ q ∈ fj, PySem.W.findIn K (.ref C) q.1 = some none) → acc.length + fj.length ≤ 900 → Made a C H0 acc H →
    (∀ H', Made a C H0 (((fj.map (·.1)).zip ys).reverse ++ acc) H' → D.nx σ H') → tInit K fj D σ H
  | [], ys, acc, H, hl, hy, hn, hz, hm, k => k H hm
  | q :: r, [], acc, H, hl, hy, hn, hz, hm, k => by cases hl
  | q :: r, y :: ys, acc, H, hl, hy, hn, hz, hm, k => by
    have go : ∀ H', Made a C H0 ((q.1, y) :: acc) H' → tInit K r D σ H' := fun H' m' => by
      refine init_run T hσ r ys _ H' (by simpa using hl) (fun k' q' y' a b => hy (k' + 1) q' y' (by simpa using a) (by simpa using b)) (fun q' h' => hn q' (List.mem_cons_of_mem _ h')) (by simp at hz ⊢; omega) m' fun H2 m2 => k H2 ?_
      simpa using m2
    refine ⟨y, hy 0 q y rfl rfl, .ref a, hσ, a, C, rfl, T, hn q List.mem_cons_self, ?_⟩
    rcases hm with ⟨e1, e2, e3⟩ | ⟨d, e1, e2, e3⟩
    · subst e1; subst e2
      exact .inl ⟨e3, fun dx hd hne => go _ (.inr ⟨dx, hd, hne, rfl⟩)⟩
    · subst e3
      refine .inr ⟨d, acc, upd_same, by rw [upd_ne e2]; exact upd_same, by simp at hz; omega, go _ (.inr ⟨d, e1, e2, ?_⟩)⟩
      rw [upd_swap (fun z => e2 z.symm), upd_twice]
/-- what such an __init__ promises -/
def spX (K : PySem.W.Frag) (C : Addr) (ns : List Str) : Sp := fun vs H Q _ => ∃ a us, vs = .ref a :: us ∧ us.length = ns.length ∧ H a = some (exo a C none) ∧ ∀ d, H d = none → d ≠ a → Q .non (upd (upd H d (exd d (ns.zip us).reverse)) a (exo a C (some d)))
/-- an own error class with such an __init__ -/
def ErrN (P : Program) (w : World) (K : PySem.W.Frag) (mg : Str → Option Value) (base : Heap) (x : Str) (k : Nat) (ns : List Str) : Prop := ∃ C fI fd ps, mg x = some (.ref C) ∧ OexC K C ∧
  PySem.W.findIn K (.ref C) "__init__" = some (some (.ref fI)) ∧ PySem.W.typeIn K (.ref fI) = some (.type "function") ∧ Binds K fd ps [] ∧ FnOk P w K mg base (L2.CX P w) k fI fd ps (spX K C ns)
def ErrAt (K : PySem.W.Frag) (mg : Str → Option Value) (x qual : Str) (st : Stmt) (ps ns : List Str) : Prop := ∃ C fI fd, mg x = some (.ref C) ∧ OexC K C ∧
  PySem.W.findIn K (.ref C) "__init__" = some (some (.ref fI)) ∧ PySem.W.typeIn K (.ref fI) = some (.type "function") ∧ Fun K "__init__" qual st fI fd ∧ Binds K fd ps [] ∧ ∀ f ∈ ns, PySem.W.findIn K (.ref C) f = some none
section
variable {P : Program} {w : World} {K : PySem.W.Frag} {mg : Str → Option Value} {base h : Heap} {x qual : Str} {st : Stmt} {ps ns N : List Str} {k : Nat}
theorem errN_of {fj : List (Str × Nat)} (dA : ErrAt K mg x qual st ps ns) (Sc : FnScope N ps (defScope st)) (hns : fj.map (·.1) = ns) (hj : fj.map (·.2) = (List.range ns.length).map (· + 1)) (hps : ps.length = ns.length + 1) (hN : N.length = ps.length) (h0 : ns ≠ []) (hz : ns.length ≤ 900)
    (h : ∀ (f : Addr) (cdv : Value) (A : Around) (outer : List PySem.Env) (s : Shared) (H : Hp) (E : XK), PSs (cxOf (L2.CX P w) P w K mg base N qual (defScope st) f cdv A outer s H E) (defBody st) (tInit K fj)) : ErrN P w K mg base x (k + 1) ns := by
  obtain ⟨C, fI, fd, hC, T, i1, i2, Fn, bd, hf⟩ := dA
  refine ⟨C, fI, fd, ps, hC, T, i1, i2, bd, Fn.okX Sc (fun vs H Q E hsp => ?_) (fun cdv A outer s H vs Q E hr hsp => ⟨_, h fI cdv A outer s H E, ?_⟩)⟩
  · obtain ⟨a, us, rfl, e, _⟩ := hsp
    rw [List.length_cons, e, hps]
  · obtain ⟨a, us, rfl, e, ea, q⟩ := hsp
    have hfl : fj.length = ns.length := by rw [← hns, List.length_map]
    have hst : L2.start N (.ref a :: us) = (V.ref a :: us).map some := by
      unfold L2.start
      rw [show N.length - (V.ref a :: us).length = 0 from by rw [hN, hps, List.length_cons, e]; omega]
      simp
    refine init_run T (by rw [hst]; rfl) fj us [] H (by rw [hfl, e]) (fun k' q' y a1 a2 => ?_) (fun q' hq => hf _ (by rw [← hns]; exact List.mem_map_of_mem hq)) (by rw [hfl]; simpa using hz) (.inl ⟨rfl, rfl, ea⟩) fun H' m' => ?_
    · have : (fj.map (·.2))[k']? = some q'.2 := by rw [List.getElem?_map, a1]; rfl
      rw [hj, List.getElem?_map] at this
      have hk : k' < ns.length := by rw [← hfl]; exact (List.getElem?_eq_some_iff.mp a1).1
      rw [List.getElem?_range hk] at this
      have e2 : k' + 1 = q'.2 := by simpa using this
      rw [← e2, hst, List.getElem?_map, List.getElem?_cons_succ, a2]
      rfl
    · rw [List.append_nil] at m'
      rcases m' with ⟨z, _, _⟩ | ⟨d, e1, e2, e3⟩
      · exfalso
        have := congrArg List.length z
        rw [List.length_reverse, List.length_zip, List.length_map, hfl, e, Nat.min_self, List.length_nil] at this
        exact h0 (List.length_eq_zero_iff.mp this)
      · rw [e3, hns]
        exact q d e1 e2
theorem errAt_mk {C f : Addr} {oc : Value} {od an : Option Addr} {osl : Array (Option Value)} {kV doc pm cdv ct : Value} {nm q : Str} {Nx : Addr} {bs bm : List Value} {sn sub ab col : _} {dd : _} {k0 k1 k2 k3 k5 : _} (X : K.In h) (G : h.Ns mainGlobals mg) (a : PySem.W.nsIn K mainGlobals x = some (some (.ref C)))
    (e1 : K.lookup C = some (excClassObj nm q C Nx bs bm true sn sub ab col dd k0 k1 k2 k3 k5 "ValueError.__new__")) (e2 : PySem.HandSPX.refsVE bm = true) (e3 : PySem.W.findIn K (.ref C) "__setattr__" = some (some (.builtin "object.__setattr__"))) (e4 : PySem.W.subIn K (.ref C) (.type "BaseException") = some true)
    (e5 : PySem.W.typeIn K (.ref C) = some (.type "type")) (e6 : PySem.W.keepIn K (.ref C) = true) (m2 : PySem.W.findIn K (.ref C) "__init__" = some (some (.ref f))) (m3 : PySem.W.typeIn K (.ref f) = some (.type "function"))
    (l : K.lookup f = some ⟨oc, od, .func (PySem.W.fnOf "__init__" qual (defArgs st) (defBody st) (defScope st) .none kV doc pm an cdv ct), osl⟩) (cd : PySem.W.codeIn K cdv qual = true) (kf : PySem.W.keepIn K (.ref f) = true)
    (hb : ∀ (kV doc pm : Value) (an : Option Addr) (cdv ct : Value) (us : List Value), us.length = ps.length → bindArgs (PySem.W.fnOf "__init__" qual (defArgs st) (defBody st) (defScope st) .none kV doc pm an cdv ct) ⟨us, []⟩ = pure (ps.zip us))
    (hf : ∀ g ∈ ns, PySem.W.findIn K (.ref C) g = some none) : ErrAt K mg x qual st ps ns := by
  have Fn := fun_mk (st := st) l cd kf
  exact ⟨C, f, _, PySem.W.mg_of X G a, ⟨⟨_, _, _, _, _, _, _, _, _, _, _, _, _, _, _, e1, e2⟩, e3, e4, e5, e6⟩, m2, m3, Fn, Fn.binds hb, hf⟩
end
theorem RepL.rev {K : PySem.W.Frag} {mg : Str → Option Value} {S : Hp} {vs : List V} {ds : List D} (r : RepL K mg S vs ds) : RepL K mg S vs.reverse ds.reverse := by
  refine ⟨by rw [List.length_reverse, List.length_reverse, r.len], fun i v d a b => ?_⟩
  have hi : i < vs.length := by simpa using (List.getElem?_eq_some_iff.mp a).1
  rw [List.getElem?_reverse hi] at a
  rw [List.getElem?_reverse (by rw [← r.len]; exact hi), ← r.len] at b
  exact r.at_ _ v d a b
section
variable {X : Cx} {E : WX} {L : Lp} {m m' : Mds} {c : Str} {ns : List Str} {k : Nat} {p pos p1 : Pos} {e : Expr} {es : List Expr} {fs : Env → Res (List D)}
theorem js_raiseN (T : ErrN X.prog X.w X.K X.mg X.base c k ns) (hr : Room (k + 1) X.A) (tk : Takes X E) (ha : JA X E m (e :: es) fs) (hz : ns.length ≤ 900 := by decide) (hc : X.calm = true := by rfl) (hg : Gl X c := by rfl) (hdb : (c == ("__debug__" : Str)) = false := by decide)
    (he : starEach (e :: es) X.env = (false, eval e X.env) :: starEach es X.env := by rfl) (hpl : (backTo p1 (starEach es X.env)).any (·.1) = false := by rfl) :
    JS X E L m m' (.Raise (some (.Call (.Name c p) (e :: es) [] p1)) none pos) (fRaise c ns fs) := by
  obtain ⟨C, fI, fd, ps, gC, oC, i1, i2, bd, G⟩ := T
  have hx : Passes (L2.CX X.prog X.w) X (fun _ _ _ => False) := fun _ _ _ _ _ _ _ z => by
    obtain ⟨_, _, _, _, _, _, _, _, _, _, _, _, hE⟩ := z
    exact hE.elim
  refine ⟨PSimp (ps_raise hc tk (pmk_oex oC i1 i2 G hr bd .nil hx hg gC ha.pa hdb he hpl)) fun D σ H h => ?_⟩
  obtain ⟨S0, H0, ρ, ⟨S, Fp, st⟩, q⟩ := h
  refine ⟨S, ρ, st.envM, (lift_post st q).imp fun ds S1 H1 s1 q1 vs rs => ?_⟩
  split at q1
  · rename_i hl
    refine ⟨by rw [rs.len, hl]; exact Nat.le_trans hz (by decide), fun a na => ⟨a, vs, by rw [List.append_nil], by rw [rs.len, hl], upd_same, fun d nd hne => ?_⟩⟩
    have nd1 : H1 d = none := by rw [upd_ne hne] at nd; exact nd
    refine ⟨rfl, d, (ns.zip vs).reverse, upd_same, by rw [upd_ne hne]; exact upd_same, nd1, ?_⟩
    have eh : upd (del (upd (upd (upd H1 a (exo a C none)) d (exd d (ns.zip vs).reverse)) a (exo a C (some d))) a) d (.xd (ns.zip vs).reverse) = upd H1 d (.xd (ns.zip vs).reverse) := by
      funext b
      by_cases hb : b = d
      · rw [hb, upd_same, upd_same]
      · rw [upd_ne hb, upd_ne hb]
        by_cases hb2 : b = a
        · rw [hb2, del_same, na]
        · rw [del_ne hb2, upd_ne hb2, upd_ne hb, upd_ne hb2]
    rw [eh]
    have s2 := Step.laid (o := .xd (ns.zip vs).reverse) s1.sub nd1
    obtain ⟨S3, F3, st3, ss⟩ := ((st.step s1).step s2).weak (Weak.nil m)
    refine q1 σ S3 F3 _ _ (some d) st3 ⟨gC, .inr ⟨d, (ns.zip vs).reverse, rfl, ss _ _ upd_same, ?_, ?_⟩⟩
    · rw [List.map_reverse, List.map_reverse, List.map_fst_zip (by rw [rs.len, hl]; exact Nat.le_refl _), List.map_fst_zip (by rw [hl]; exact Nat.le_refl _)]
    · rw [List.map_reverse, List.map_reverse, List.map_snd_zip (by rw [rs.len, hl]; exact Nat.le_refl _), List.map_snd_zip (by rw [hl]; exact Nat.le_refl _)]
      exact (rs.mono (s2.ss.trans ss)).rev
  · exact q1.elim
end
end Da
namespace Da
open PySem PySem.Spec L2
/-- of the classes in l it is known whether a clause, an isinstance takes them -/
def askOf (l : List (Str × Bool)) (c : Str) : Option Bool := l.lookup c
theorem errF {K : PySem.W.Frag} {C : Addr} {f : Str} {fs : List Str} (h : PySem.W.findIn K (.ref C) f = some none) (t : ∀ g ∈ fs, PySem.W.findIn K (.ref C) g = some none) : ∀ g ∈ f :: fs, PySem.W.findIn K (.ref C) g = some none := fun g hg => by
  rcases List.mem_cons.mp hg with rfl | z
  · exact h
  · exact t g z
theorem err0_mk {K : PySem.W.Frag} {mg : Str → Option Value} {x : Str} {C : Addr} (h : mg x = some (.ref C)) (e1 : PySem.W.excIn K C veT "ValueError.__new__" = true) (e2 : PySem.W.keepIn K (.ref C) = true) (e3 : PySem.W.subIn K (.ref C) (.type "BaseException") = some true) (e4 : PySem.W.typeIn K (.ref C) = some (.type "type")) : Err0 K mg x := ⟨C, h, e1, e2, e3, e4⟩
end Da
namespace Da
open PySem PySem.Spec L2
end Da
namespace Da
open PySem PySem.Spec L2
end Da
namespace Da
open PySem PySem.Spec L2
section
variable {X : Cx} {E : WX} {m : Mds} {pos : Pos} {x : Str}
def GlobI (mg : Str → Option Value) (x : Str) (i : Int) : Prop := ∃ t, mg x = some (.int i t)
theorem je_globI {i : Int} (h : GlobI X.mg x i) (hg : Gl X x := by rfl) (hdb : (x == ("__debug__" : Str)) = false := by decide) : JE X E m .sh (.Name x pos) (fC (.int i)) := by
  obtain ⟨t, hm⟩ := h
  exact ⟨PEimp (pe_glob (v := .int i) hg hm ⟨t, rfl⟩ hdb) fun σ H Q q => by
    obtain ⟨S, ρ, he, hp⟩ := q
    exact hp.val he.1 (.int i)⟩
theorem globI_mk {mg : Str → Option Value} {i : Int} {t : Tok} (h : mg x = some (.int i t)) : GlobI mg x i := ⟨t, h⟩
end
end Da
namespace Da
open PySem PySem.Spec L2
/-- the mode of an own tree, n deep; .. that is lent and stands at q -/
def mdT : Nat → Md
  | 0 => .sh
  | 1 => .ow
  | n + 2 => .tr (n + 2) none none
def mdL : Nat → Addr → Md
  | 0, _ => .sh
  | 1, q => .owq q
  | n + 2, q => .tr (n + 2) none (some q)
def IsTr (n : Nat) (md : Md) : Prop := md = mdT n ∨ ∃ q, md = mdL n q
section
variable {K : PySem.W.Frag} {mg : Str → Option Value} {m : Mds} {S0 H0 S S' H H' : Hp} {σ : L2.St} {ρ : Env} {F : Nat → List Addr} {fp : List Addr} {v : V} {d : D}
theorem flat_nil : ∀ {fps : List (List Addr)}, (∀ (j : Nat) (f : List Addr), fps[j]? = some f → f = []) → fps.flatten = []
  | [], _ => rfl
  | f :: fps, h => by
    have h0 : f = [] := h 0 f rfl
    have h1 := flat_nil (fps := fps) fun j g e => h (j + 1) g (by simpa using e)
    rw [List.flatten_cons, h0, h1]
    rfl
theorem own1 : OwnTr K mg S H 1 fp v d ↔ ∃ p vs ds, v = .ref p ∧ d = .lst ds ∧ fp = [p] ∧ S p = none ∧ H p = some (.lst vs) ∧ RepL K mg S vs ds := by
  constructor
  · rintro ⟨p, vs, ds, fps, e1, e2, e3, e4, e5, e6, e7, e8⟩
    refine ⟨p, vs, ds, e1, e2, ?_, e4, e5, ⟨e6, fun i w e a b => ?_⟩⟩
    · rw [e3, flat_nil fun j f ej => ?_]
      have hl := (List.getElem?_eq_some_iff.mp ej).1
      exact (e8 j _ _ f (List.getElem?_eq_getElem (by omega)) (List.getElem?_eq_getElem (by omega)) ej).2
    · have hl := (List.getElem?_eq_some_iff.mp b).1
      exact (e8 i w e _ a b (List.getElem?_eq_getElem (l := fps) (by omega))).1
  · rintro ⟨p, vs, ds, e1, e2, e3, e4, e5, e6⟩
    refine ⟨p, vs, ds, List.replicate ds.length [], e1, e2, ?_, e4, e5, e6.len, by simp, fun j w e f a b c => ?_⟩
    · rw [e3, flat_nil]
      intro j f ej
      rw [List.getElem?_replicate] at ej
      split at ej
      · cases ej; rfl
      · cases ej
    · rw [List.getElem?_replicate] at c
      split at c
      · cases c; exact ⟨e6.at_ j w e a b, rfl⟩
      · cases c
theorem mdT_own : ∀ {n : Nat}, OwnAt K mg S H fp v d (mdT n) ↔ OwnTr K mg S H n fp v d
  | 0 => Iff.rfl
  | 1 => own1.symm
  | n + 2 => ⟨fun h => h.2, fun h => ⟨(fun q z => nomatch z), h⟩⟩
theorem mdL_own : ∀ {n : Nat} {q : Addr}, OwnAt K mg S H fp v d (mdL (n + 1) q) ↔ v = .ref q ∧ OwnTr K mg S H (n + 1) fp v d
  | 0, q => ⟨fun h => ⟨h.1, own1.mpr h.2⟩, fun h => ⟨h.1, own1.mp h.2⟩⟩
  | n + 1, q => ⟨fun h => ⟨h.1 q rfl, h.2⟩, fun h => ⟨fun q' z => by cases z; exact h.1, h.2⟩⟩
theorem IsTr.own {n : Nat} {md : Md} (hmd : IsTr (n + 1) md) (h : OwnAt K mg S H fp v d md) : OwnTr K mg S H (n + 1) fp v d := by
  rcases hmd with hmd | ⟨q, hmd⟩
  · rw [hmd] at h; exact mdT_own.mp h
  · rw [hmd] at h; exact (mdL_own.mp h).2
/-- the same thing, changed -/
theorem IsTr.back {n : Nat} {md : Md} {fp' : List Addr} {d' : D} (hmd : IsTr (n + 1) md) (h : OwnAt K mg S H fp v d md) (k : OwnTr K mg S' H' (n + 1) fp' v d') : OwnAt K mg S' H' fp' v d' md := by
  rcases hmd with hmd | ⟨q, hmd⟩
  · rw [hmd]; exact mdT_own.mpr k
  · rw [hmd] at h ⊢; exact mdL_own.mpr ⟨(mdL_own.mp h).1, k⟩
theorem OwnTr.agree : ∀ {n : Nat} {fp : List Addr} {v : V} {d : D}, (∀ a, a ∈ fp → H' a = H a) → OwnTr K mg S H n fp v d → OwnTr K mg S H' n fp v d
  | 0, _, _, _, _, h => h
  | n + 1, _, _, _, hf, h => by
    obtain ⟨q, vs, ds, fps, e1, e2, e3, e4, e5, e6, e7, e8⟩ := h
    exact ⟨q, vs, ds, fps, e1, e2, e3, e4, by rw [hf q (by rw [e3]; exact List.mem_cons_self)]; exact e5, e6, e7, fun j w e f x y z => (e8 j w e f x y z).agree fun a ha => hf a (by rw [e3]; exact List.mem_cons_of_mem _ (flat_mem z ha))⟩
theorem OwnAt.agree {md : Md} (hf : ∀ a, a ∈ fp → H' a = H a) (h : OwnAt K mg S H fp v d md) : OwnAt K mg S H' fp v d md := by
  cases md with
  | owq q0 =>
    obtain ⟨e0, p, vs, ds, e1, e2, e3, e4, e5, e6⟩ := h
    exact ⟨e0, p, vs, ds, e1, e2, e3, e4, by rw [hf p (by rw [e3]; exact List.mem_cons_self)]; exact e5, e6⟩
  | tr n b at_ =>
    cases b with
    | none => exact ⟨h.1, h.2.agree hf⟩
    | some kq =>
      obtain ⟨h0, p, vs, ds, fps, e1, e2, e3, e4, e5, e6, e7, h1, h2, h3, e8⟩ := h
      exact ⟨h0, p, vs, ds, fps, e1, e2, e3, e4, by rw [hf p (by rw [e3]; exact List.mem_cons_self)]; exact e5, e6, e7, h1, h2, h3, fun j w e f i x y z => (e8 j w e f i x y z).agree fun a ha => hf a (by rw [e3]; exact List.mem_cons_of_mem _ (flat_mem z ha))⟩
  | ex a0 b0 c0 => exact h
  | dw n =>
    obtain ⟨p, kvs, ds, fps, e1, e2, e3, e4, e5, e6, e7, e8⟩ := h
    exact ⟨p, kvs, ds, fps, e1, e2, e3, e4, by rw [hf p (by rw [e3]; exact List.mem_cons_self)]; exact e5, e6, e7, fun j w e f x y z => (e8 j w e f x y z).agree fun a ha => hf a (by rw [e3]; exact List.mem_cons_of_mem _ (flat_mem z ha))⟩
  | sh => exact h
  | ow =>
    obtain ⟨p, vs, ds, e1, e2, e3, e4, e5, e6⟩ := h
    exact ⟨p, vs, ds, e1, e2, e3, e4, by rw [hf p (by rw [e3]; exact List.mem_cons_self)]; exact e5, e6⟩
  | ow2 =>
    obtain ⟨q, ps, dss, e1, e2, e3, e4, e5, e6, e7⟩ := h
    refine ⟨q, ps, dss, e1, e2, e3, e4, by rw [hf q (by rw [e3]; exact List.mem_cons_self)]; exact e5, e6, fun j r ds x y => ?_⟩
    obtain ⟨z1, vs, z2, z3⟩ := e7 j r ds x y
    exact ⟨z1, vs, by rw [hf r (by rw [e3]; exact List.mem_cons_of_mem _ (List.mem_of_getElem? x))]; exact z2, z3⟩
  | dk =>
    obtain ⟨p, vs, ds, e1, e2, e3, e4, e5, e6⟩ := h
    exact ⟨p, vs, ds, e1, e2, e3, e4, by rw [hf p (by rw [e3]; exact List.mem_cons_self)]; exact e5, e6⟩
  | dt =>
    obtain ⟨p, vs, ds, e1, e2, e3, e4, e5, e6⟩ := h
    exact ⟨p, vs, ds, e1, e2, e3, e4, by rw [hf p (by rw [e3]; exact List.mem_cons_self)]; exact e5, e6⟩
  | ob q =>
    obtain ⟨dx, C, c, fs, ds, e1, e2, e3, e4, e5, e6, e7, e8, e9⟩ := h
    exact ⟨dx, C, c, fs, ds, e1, e2, e3, e4, e5, e6, by rw [hf q (by rw [e3]; exact List.mem_cons_self)]; exact e7, by rw [hf dx (by rw [e3]; exact List.mem_cons_of_mem _ List.mem_cons_self)]; exact e8, e9⟩
/-- slot i's thing is changed in its own place, with what is new -/
theorem StF.put {i : Nat} {d0 d1 : D} {fp' : List Addr} (st : StF K mg m S0 H0 S F σ ρ H) (hρ : ρ[i]? = some (some d0)) (hσ : σ[i]? = some (some v)) (hch : ∀ a, a ∉ F i → H' a = H a)
    (o : OwnAt K mg S H' fp' v d1 (mdAt m i)) (hn : fp'.Nodup) (hf : ∀ a, a ∈ fp' → a ∈ F i ∨ (H0 a = none ∧ ∀ j d, j ≠ i → ρ[j]? = some (some d) → a ∉ F j)) :
    StF K mg m S0 H0 S (F_set F i fp') σ (ρ.set i (some d1)) H' := by
  obtain ⟨s, en, nw⟩ := st
  have hil : i < ρ.length := (List.getElem?_eq_some_iff.mp hρ).1
  have key : ∀ j d', (ρ.set i (some d1))[j]? = some (some d') → (j = i ∧ d' = d1) ∨ (j ≠ i ∧ ρ[j]? = some (some d')) := fun j d' ej => by
    by_cases hj : j = i
    · subst hj
      rw [List.getElem?_set_self hil] at ej
      injection ej with z; injection z with z
      exact .inl ⟨rfl, z.symm⟩
    · rw [List.getElem?_set_ne (Ne.symm hj)] at ej
      exact .inr ⟨hj, ej⟩
  obtain ⟨v0, ev0, o0⟩ := en.at_ i d0 hρ
  have apart : ∀ j d', j ≠ i → ρ[j]? = some (some d') → ∀ a, a ∈ fp' → a ∉ F j := fun j d' hj ej a ha => by
    rcases hf a ha with z | z
    · exact en.apart i j _ d' (Ne.symm hj) hρ ej a z
    · exact z.2 j d' hj ej
  refine ⟨⟨fun a u ea => ?_, s.ss, fun a u ea => ?_, s.new⟩, ⟨by rw [List.length_set]; exact en.len, fun j d' ej => ?_, fun j d' ej => ?_, fun j k a b hjk e1 e2 => ?_⟩, fun j d' ej => ?_⟩
  · rw [hch a (fun z => by rw [nw i _ hρ a z] at ea; cases ea)]
    exact s.hh a u ea
  · rw [hch a (fun z => by rw [(o0.out z).1] at ea; cases ea)]
    exact s.sub a u ea
  · rcases key j d' ej with ⟨rfl, rfl⟩ | ⟨hj, ej'⟩
    · exact ⟨v, hσ, by rw [F_at]; exact o⟩
    · obtain ⟨w, e1, o1⟩ := en.at_ j d' ej'
      rw [F_off hj]
      exact ⟨w, e1, o1.agree fun a ha => hch a (en.apart j i d' _ hj ej' hρ a ha)⟩
  · rcases key j d' ej with ⟨rfl, rfl⟩ | ⟨hj, ej'⟩
    · rw [F_at]; exact hn
    · rw [F_off hj]; exact en.nd j d' ej'
  · rcases key j a e1 with ⟨rfl, rfl⟩ | ⟨hj, e1'⟩
    · rcases key k b e2 with ⟨z, _⟩ | ⟨hk, e2'⟩
      · exact absurd z.symm hjk
      · rw [F_at, F_off hk]; exact apart k b hk e2'
    · rcases key k b e2 with ⟨rfl, rfl⟩ | ⟨hk, e2'⟩
      · rw [F_at, F_off hj]; exact fun x hx z => apart j a hj e1' x z hx
      · rw [F_off hj, F_off hk]; exact en.apart j k a b hjk e1' e2'
  · rcases key j d' ej with ⟨rfl, rfl⟩ | ⟨hj, ej'⟩
    · rw [F_at]; intro a ha
      rcases hf a ha with z | z
      · exact nw _ _ hρ a z
      · exact z.1
    · rw [F_off hj]; exact nw j d' ej'
/-- what is known of an own tree -/
theorem StF.ownT {i n : Nat} (st : StF K mg m S0 H0 S F σ ρ H) (hmd : IsTr (n + 1) (mdAt m i)) (hρ : ρ[i]? = some (some d)) :
    ∃ v, σ[i]? = some (some v) ∧ OwnAt K mg S H (F i) v d (mdAt m i) ∧ OwnTr K mg S H (n + 1) (F i) v d ∧ (F i).Nodup := by
  obtain ⟨v, e1, o⟩ := st.2.1.at_ i d hρ
  exact ⟨v, e1, o, hmd.own o, st.2.1.nd i d hρ⟩
theorem set_flat {fps : List (List Addr)} {k : Nat} {f g : List Addr} (hk : fps[k]? = some f) (a : Addr) : a ∈ (fps.set k g).flatten ↔ a ∈ g ∨ ∃ j h, j ≠ k ∧ fps[j]? = some h ∧ a ∈ h := by
  have hkl := (List.getElem?_eq_some_iff.mp hk).1
  constructor
  · intro h
    obtain ⟨j, f', hj, ha⟩ := mem_flat h
    by_cases hjk : j = k
    · subst hjk
      rw [List.getElem?_set_self hkl] at hj
      cases hj
      exact .inl ha
    · rw [List.getElem?_set_ne (Ne.symm hjk)] at hj
      exact .inr ⟨j, f', hjk, hj, ha⟩
  · rintro (h | ⟨j, f', hjk, hj, ha⟩)
    · exact flat_mem (j := k) (List.getElem?_set_self hkl) h
    · exact flat_mem (j := j) (by rw [List.getElem?_set_ne (Ne.symm hjk)]; exact hj) ha
theorem nd_split : ∀ {fps : List (List Addr)} {k : Nat} {f : List Addr}, fps[k]? = some f → (fps.flatten.Nodup ↔ f.Nodup ∧ (fps.set k []).flatten.Nodup ∧ ∀ a, a ∈ f → a ∉ (fps.set k []).flatten)
  | [], k, f, h => by simp at h
  | g :: fps, 0, f, h => by
    cases h
    simp only [List.set_cons_zero, List.flatten_cons, List.nil_append]
    rw [List.nodup_append]
    exact ⟨fun ⟨a, b, c⟩ => ⟨a, b, fun x hx hy => c x hx x hy rfl⟩, fun ⟨a, b, c⟩ => ⟨a, b, fun x hx y hy z => c x hx (by rw [z]; exact hy)⟩⟩
  | g :: fps, k + 1, f, h => by
    have h' : fps[k]? = some f := by simpa using h
    have ih := nd_split h'
    simp only [List.set_cons_succ, List.flatten_cons]
    rw [List.nodup_append, List.nodup_append, ih]
    have hkl := (List.getElem?_eq_some_iff.mp h').1
    have mem : ∀ a, a ∈ fps.flatten ↔ a ∈ f ∨ a ∈ (fps.set k []).flatten := fun a => by
      have e : fps.set k f = fps := by
        refine List.ext_getElem? fun j => ?_
        rw [List.getElem?_set]
        split
        · rename_i hj; subst hj; first | (rw [if_pos hkl, h']) | exact h'.symm
        · rfl
      have := set_flat (g := f) h' a
      rw [e] at this
      have t2 := set_flat (g := []) h' a
      rw [this, t2]
      simp
    constructor
    · rintro ⟨a, ⟨b, c, dd⟩, e⟩
      refine ⟨b, ⟨a, c, fun x hx y hy => e x hx y ((mem y).mpr (.inr hy))⟩, fun x hx hy => ?_⟩
      rcases List.mem_append.mp hy with z | z
      · exact e x z x ((mem x).mpr (.inl hx)) rfl
      · exact dd x hx z
    · rintro ⟨b, ⟨a, c, e⟩, dd⟩
      refine ⟨a, ⟨b, c, fun x hx hy => dd x hx (List.mem_append_right _ hy)⟩, fun x hx y hy z => ?_⟩
      rcases (mem y).mp hy with w | w
      · exact dd y w (List.mem_append_left _ (by rw [← z]; exact hx))
      · exact e x hx y w z
/-- an inner thing is replaced by one of one's own -/
theorem OwnTr.setT {n k : Nat} {p : Addr} {vs : List V} {ds : List D} {fps : List (List Addr)} {w : V} {e : D} {f g : List Addr}
    (sp : S p = none) (h6 : vs.length = ds.length) (h7 : fps.length = ds.length) (h8 : ∀ (j : Nat) (w : V) (e : D) (f : List Addr), j ≠ k → vs[j]? = some w → ds[j]? = some e → fps[j]? = some f → OwnTr K mg S H n f w e)
    (hp : H p = some (.lst (vs.set k w))) (o : OwnTr K mg S H n g w e) (hk : k < ds.length) : OwnTr K mg S H (n + 1) (p :: (fps.set k g).flatten) (.ref p) (.lst (ds.set k e)) := by
  refine ⟨p, vs.set k w, ds.set k e, fps.set k g, rfl, rfl, rfl, sp, hp, by simp [h6], by simp [h7], fun j w' e' f' a b c => ?_⟩
  by_cases hj : j = k
  · subst hj
    rw [List.getElem?_set_self (by omega)] at a b c
    cases a; cases b; cases c
    exact o
  · rw [List.getElem?_set_ne (Ne.symm hj)] at a b c
    exact h8 j w' e' f' hj a b c
end
section
variable {K : PySem.W.Frag} {mg : Str → Option Value} {E : WX} {m : Mds} {it : Env → Res (List D)} {g : D → Env → Res Env} {c : Env → Res Bool} {f : Env → Res D} {ts vs : List Nat}
/-- the list of new trees under way -/
def LcT (K : PySem.W.Frag) (mg : Str → Option Value) (n : Nat) (g : D → Env → Res Env) (c : Env → Res Bool) (f : Env → Res D) (ρ : Env) (xs ys : List D) (D0 : Addr) (S1 H1 : Hp) (i : Nat) (H : Hp) : Prop :=
  ∃ (S2 : Hp) (ws : List V) (ds : List D) (fps : List (List Addr)) (rest : List D), Step S1 H1 S2 H ∧ S2 D0 = none ∧ H D0 = some (.lst ws) ∧ ws.length = ds.length ∧ fps.length = ds.length ∧
    (∀ (j : Nat) (w : V) (e : D) (f : List Addr), ws[j]? = some w → ds[j]? = some e → fps[j]? = some f → OwnTr K mg S2 H n f w e) ∧
    (D0 :: fps.flatten).Nodup ∧ (∀ q, q ∈ fps.flatten → H1 q = none) ∧ lcGo g c f ρ (xs.drop i) = .ok rest ∧ ys = ds ++ rest ∧ ds.length ≤ i
theorem flat_snoc {fps : List (List Addr)} {g : List Addr} : (fps ++ [g]).flatten = fps.flatten ++ g := by simp
theorem lcT_ok {n : Nat} {σ : L2.St} {H : Hp} {Q : VK} (hts : ∀ t ∈ ts, t ∈ vs) (h : tE K mg E m (mdT (n + 1)) (fLc vs it g c f) σ H Q) :
    tLc (tI K mg E m it) (tGD K mg m ts g) (tT K mg EF m c) (tE K mg EF m (mdT n) f) vs σ H Q := by
  obtain ⟨S, ρ, hm, hp⟩ := h
  refine ⟨S, ρ, hm, (Post.bind hp).imp fun xs S1 H1 s1 k J w D0 hD => ?_⟩
  split at k
  rotate_left
  · exact k.elim
  rename_i hz
  have hz := szOk_ok hz
  cases eg : lcGo g c f (wipeD ρ vs) xs with
  | ex c' fs => rw [eg] at k; exact k.elim
  | er => rw [eg] at k; exact k.elim
  | ok ys =>
    rw [eg] at k
    have k : Post K mg (WE E σ) S1 H1 (mdT (n + 1)) (.ok (.lst ys)) Q := k
    refine ⟨fun i u H => u = xs.length - i ∧ i ≤ xs.length ∧ LcT K mg n g c f (wipeD ρ vs) xs ys D0 S1 H1 i H, ⟨xs.length, by simp, Nat.zero_le _, S1, [], [], [], ys, Step.hid s1.sub hD, s1.sub.free hD, upd_same, rfl, rfl, (fun j w e f a _ _ => by simp at a), (by simp), (fun q hq => by simp at hq), eg, rfl, Nat.le_refl _⟩, ?_⟩
    rintro i u H2 ⟨rfl, hi, S2, ws, ds, fps, rest, st2, hs2, hd2, hl, hfl, hin, hnd, hnew, el, ey, hn⟩
    by_cases hlt : i < xs.length
    · obtain ⟨hgo, hyl⟩ := w.go i xs[i] S2 H2 (List.getElem?_eq_getElem hlt) st2.ss st2.sub
      refine .inr ⟨hgo, LcT K mg n g c f (wipeD ρ vs) xs ys D0 S1 H1 (i + 1), fun H' z => ⟨xs.length - (i + 1), by omega, rfl, hlt, z⟩, fun x H3 y => ?_⟩
      obtain ⟨S3, s3, r3⟩ := hyl x H3 y
      rw [List.drop_eq_getElem_cons hlt] at el
      unfold lcGo at el
      cases eg1 : g xs[i] (wipeD ρ vs) with
      | ex c' fs => rw [eg1] at el; cases el
      | er => rw [eg1] at el; cases el
      | ok ρ1 =>
        rw [eg1] at el
        simp only at el
        have st3 := st2.trans s3
        obtain ⟨F, stF⟩ := (((hm.step s1).step st3).wipe vs).bare
        refine ⟨_, _, S3, F, wipeD ρ vs, xs[i], stF, r3, ?_⟩
        rw [eg1]
        intro σ4 S4 F4 H4 st4 s4 hfr
        refine ⟨wipe_eq (by rw [hfr.1, L2.wipe_length]) hfr.2 hts, S4, ρ1, st4.envM, ?_⟩
        cases ec : c ρ1 with
        | ex c' fs => rw [ec] at el; cases el
        | er => rw [ec] at el; cases el
        | ok b =>
          rw [ec] at el
          simp only at el
          intro S5 H5 s5
          have a5 := (s3.trans s4).trans s5
          cases b with
          | false =>
            rw [if_neg (by decide)] at el
            show LcT K mg n g c f (wipeD ρ vs) xs ys D0 S1 H1 (i + 1) H5
            exact ⟨S5, ws, ds, fps, rest, st2.trans a5, a5.out hs2 hd2, a5.hh _ _ hd2, hl, hfl, fun j w e f x y z => (hin j w e f x y z).step a5, hnd, hnew, el, ey, by omega⟩
          | true =>
            rw [if_pos rfl] at el
            show tE K mg EF m (mdT n) f σ4 H5 _
            refine ⟨S5, ρ1, (st4.envM).step s5, ?_⟩
            cases ef : f ρ1 with
            | ex c' fs => rw [ef] at el; cases el
            | er => rw [ef] at el; cases el
            | ok y' =>
              rw [ef] at el
              simp only at el
              intro v S6 H6 fp s6 o hfn hf
              have o := mdT_own.mp o
              have a6 := a5.trans s6
              cases er : lcGo g c f (wipeD ρ vs) (xs.drop (i + 1)) with
              | ex c' fs => rw [er] at el; cases el
              | er => rw [er] at el; cases el
              | ok rest' =>
                rw [er] at el
                cases el
                have old : ∀ a, a ∈ fps.flatten → ∃ o, H5 a = some o := fun a ha => by
                  obtain ⟨j, f', hj, hfj⟩ := mem_flat ha
                  have hjl := (List.getElem?_eq_some_iff.mp hj).1
                  obtain ⟨_, o', ho'⟩ := (hin j _ _ f' (List.getElem?_eq_getElem (by omega)) (List.getElem?_eq_getElem (by omega)) hj).out hfj
                  exact ⟨o', a5.hh _ _ ho'⟩
                have hDf : D0 ∉ fp := fun z => by
                  have := hf D0 z
                  rw [a5.hh _ _ hd2] at this
                  cases this
                have hDp : D0 ∉ fps.flatten := (List.nodup_cons.mp hnd).1
                refine ⟨ws, a6.hh _ _ hd2, by omega, S6, ws ++ [v], ds ++ [y'], fps ++ [fp], rest', (st2.trans a6).write (a6.out hs2 hd2) hD, a6.out hs2 hd2, ?_, by simp [hl], by simp [hfl], fun j w e f' x y z => ?_, ?_, fun q hq => ?_, er, by rw [ey]; simp, by simp; omega⟩
                · rw [upd_same]
                · by_cases hj : j < ds.length
                  · rw [List.getElem?_append_left (by omega)] at x y z
                    exact ((hin j w e f' x y z).step a6).agree fun a ha => by
                      rw [upd_ne fun zz => hDp (by rw [← zz]; exact flat_mem z ha)]
                  · have hjl := (List.getElem?_eq_some_iff.mp y).1
                    rw [List.length_append] at hjl
                    have : j = ds.length := by simp at hjl; omega
                    subst this
                    rw [List.getElem?_concat_length] at y
                    rw [← hl, List.getElem?_concat_length] at x
                    rw [← hfl, List.getElem?_concat_length] at z
                    cases x; cases y; cases z
                    exact o.agree fun a ha => by rw [upd_ne fun zz => hDf (by rw [← zz]; exact ha)]
                · rw [flat_snoc, List.nodup_cons]
                  rw [List.nodup_cons] at hnd
                  refine ⟨fun z => ?_, ?_⟩
                  · rcases List.mem_append.mp z with z | z
                    · exact hDp z
                    · exact hDf z
                  · rw [List.nodup_append]
                    refine ⟨hnd.2, hfn, fun a ha b hb z => ?_⟩
                    obtain ⟨o', ho'⟩ := old a ha
                    rw [z, hf b hb] at ho'
                    cases ho'
                · rw [flat_snoc] at hq
                  rcases List.mem_append.mp hq with z | z
                  · exact hnew q z
                  · exact (st2.trans a5).hh.free (hf q z)
    · have e : i = xs.length := by omega
      subst e
      rw [List.drop_length] at el
      cases el
      rw [List.append_nil] at ey
      subst ey
      refine .inl ⟨w.stop S2 H2 st2.ss st2.sub, k _ S2 H2 (D0 :: fps.flatten) st2 (mdT_own.mpr ⟨D0, ws, ys, fps, rfl, rfl, rfl, hs2, hd2, hl, hfl, hin⟩) hnd (fun a z => ?_)⟩
      rcases List.mem_cons.mp z with z | z
      · rw [z]; exact hD
      · exact hnew a z
end
end Da
namespace Da
open PySem PySem.Spec L2
section
variable {X : Cx} {E : WX} {L : Lp} {m : Mds} {ts : List Nat} {N0 ps0 : List Str} {sc0 : Scope} {elt tg iter e j e2 j2 : Expr} {ifs : List Expr} {scope : Scope} {pos p1 p2 p3 p4 : Pos} {it : Env → Res (List D)} {g : D → Env → Res Env} {c : Env → Res Bool} {f fj fj2 : Env → Res D} {x : Str}
theorem js_setLcT (n : Nat) (i : Nat) {md1 md2 : Md} {y : Str} {py spos : Pos} (Sc : FnScope N0 ps0 sc0) (own : List (Str × Nat)) (hi : JI X E m tg iter it)
    (hg : ∀ (s : Shared) (H : Hp) (C : Addr) (cl : List (Str × Addr)) (fp : List Addr), JG (X.blk s H scope (compEnvC scope cl C X.env) fp) m ts tg g) (ht : ∀ (s : Shared) (H : Hp) (C : Addr) (cl : List (Str × Addr)) (fp : List Addr), JTs (X.blk s H scope (compEnvC scope cl C X.env) fp) EF m ifs c) (he : ∀ (s : Shared) (H : Hp) (C : Addr) (cl : List (Str × Addr)) (fp : List Addr), JE (X.blk s H scope (compEnvC scope cl C X.env) fp) EF m md1 elt f) (h1 : md1 = mdT n := by rfl) (h2 : md2 = mdT (n + 1) := by rfl) (hl : i < m.length := by first | decide | simp) (hy : X.N[i]? = some y := by rfl) (hyl : X.env.scope.names.lookup y = some .local := by rfl)
    (hsw : swapsWith (.ListComp elt [⟨tg, iter, ifs, 0⟩] scope pos) (some (.Name y py)) spos.line X.env = pure true := by rfl) (hc : X.calm = true := by rfl) (hN0 : X.N = N0 := by rfl) (hsc : X.env.scope = sc0 := by rfl) (ok : blkC N0 sc0 scope own = true := by decide +kernel) (hts : ∀ t ∈ ts, t ∈ own.map (·.2) := by decide)
    (hs : ∀ x, foldedSetIterable iter X.env x = pure x := by intro _; rfl) : JS X E L m (m.set i md2) (.Assign [.Name y py] (.ListComp elt [⟨tg, iter, ifs, 0⟩] scope pos) spos) (fSet i (fLc (own.map (·.2)) it g c f)) := by
  subst h1 h2
  refine ⟨PSimp (ps_setLc (g := tGD X.K X.mg m ts g) (tt := tT X.K X.mg EF m c) (te := tE X.K X.mg EF m (mdT n) f) hc (by rw [hN0]; exact Sc.nd) hy hyl hsw hi.pi (blkOk_by (by rw [hN0, hsc]; exact ok)) (fun s H C cl fp => (hg s H C cl fp).pg) (fun s H C cl fp => (ht s H C cl fp).pt) (fun s H C cl fp => (he s H C cl fp).pe) hs) fun D σ H h => ?_⟩
  obtain ⟨S0, H0, ρ, ⟨S, Fp, st⟩, p⟩ := h
  refine lcT_ok hts ⟨S, ρ, st.envM, (lift_post st p).postM fun d v S1 H1 fp s1 o hn hf k => ?_⟩
  refine k _ _ (StF.stM ((st.step s1).set hl o hn (fun a ha => st.1.hh.free (hf a ha)) fun j e' hj ej a ha z => ?_))
  obtain ⟨w, _, o'⟩ := st.2.1.at_ j e' ej
  obtain ⟨_, u, hu⟩ := o'.out ha
  rw [hf a z] at hu
  cases hu
/-- [] as a tree of any depth -/
theorem je_lstT (n : Nat) {md : Md} (h : md = mdT (n + 1) := by rfl) : JE X E m md (.List [] pos) (fOn gLstD fA0) := by
  subst h
  refine ⟨PEimp (pe_lst pa_nil) fun σ H Q h => ?_⟩
  obtain ⟨S, ρ, hm, hp⟩ := h
  exact ⟨by simp, fun p hn => hp _ S _ [p] (Step.hid hm.1 hn) (mdT_own.mpr ⟨p, [], [], [], rfl, rfl, rfl, hm.1.free hn, upd_same, rfl, rfl, fun j w e f a => by simp at a⟩) (by simp) (fun a z => by
    have : a = p := by simpa using z
    rw [this]; exact hn)⟩
theorem OwnTr.app {K : PySem.W.Frag} {mg : Str → Option Value} {S H : Hp} {n : Nat} {f fp : List Addr} {v w : V} {us : List D} {d : D} (h : OwnTr K mg S H (n + 1) f v (.lst us)) (nd : f.Nodup) (on : OwnTr K mg S H n fp w d) (hn : fp.Nodup) (hx : ∀ a, a ∈ fp → a ∉ f) :
    ∃ (q : Addr) (ws : List V), v = .ref q ∧ H q = some (.lst ws) ∧ ws.length = us.length ∧ q ∈ f ∧ ∃ f', OwnTr K mg S (upd H q (.lst (ws ++ [w]))) (n + 1) f' v (.lst (us ++ [d])) ∧ f'.Nodup ∧ ∀ a, a ∈ f' → a ∈ f ∨ a ∈ fp := by
  obtain ⟨q, ws, ds, fps, eq, eds, ef, sq, hq, hl, hfl, hin⟩ := h
  cases eq; cases eds
  have hqf : q ∈ f := by rw [ef]; exact List.mem_cons_self
  have hqn : q ∉ fp := fun z => hx q z hqf
  have nd2 := nd
  rw [ef, List.nodup_cons] at nd2
  have q0 : ∀ a, a ∈ fps.flatten → a ≠ q := fun a ha z => nd2.1 (by rw [← z]; exact ha)
  refine ⟨q, ws, rfl, hq, hl, hqf, q :: (fps ++ [fp]).flatten, ⟨q, ws ++ [w], us ++ [d], fps ++ [fp], rfl, rfl, rfl, sq, upd_same, by simp [hl], by simp [hfl], fun j w' e' f' a b c => ?_⟩, ?_, fun a ha => ?_⟩
  · by_cases hj : j < us.length
    · rw [List.getElem?_append_left (by omega)] at a b c
      exact (hin j w' e' f' a b c).agree fun z hz => upd_ne (q0 z (flat_mem c hz))
    · have hjl := (List.getElem?_eq_some_iff.mp b).1
      rw [List.length_append] at hjl
      have : j = us.length := by simp at hjl; omega
      subst this
      rw [List.getElem?_concat_length] at b
      rw [← hl, List.getElem?_concat_length] at a
      rw [← hfl, List.getElem?_concat_length] at c
      cases a; cases b; cases c
      exact on.agree fun z hz => upd_ne fun zz => hqn (by rw [← zz]; exact hz)
  · rw [flat_snoc, List.nodup_cons]
    refine ⟨fun z => ?_, ?_⟩
    · rcases List.mem_append.mp z with z | z
      · exact nd2.1 z
      · exact hqn z
    · rw [List.nodup_append]
      exact ⟨nd2.2, hn, fun a ha b hb z => hx b hb (by rw [ef, ← z]; exact List.mem_cons_of_mem _ ha)⟩
  · rw [flat_snoc] at ha
    rcases List.mem_cons.mp ha with rfl | ha
    · exact .inl hqf
    · rcases List.mem_append.mp ha with z | z
      · exact .inl (by rw [ef]; exact List.mem_cons_of_mem _ z)
      · exact .inr z
end
end Da
namespace Da
open PySem PySem.Spec L2
end Da
namespace Da
open PySem PySem.Spec L2
def fBor (x y : Nat) (fj : Env → Res D) (F : Nat → FS) : FS := fun ρ => match ρ[x]? with
  | some (some (.lst xs)) => lift (fj ρ) ρ fun d => match d with
    | .int z => (match ixN xs.length z with
      | some k => (match xs[k]? with
        | some u => F k ((ρ.set x (some (.lst (xs.set k junk)))).set y (some u))
        | none => .er)
      | none => .er)
    | _ => .er
  | _ => .er
def fGive (x y k : Nat) (F : FS) : FS := fun ρ => match ρ[x]?, ρ[y]? with
  | some (some (.lst xs)), some (some u) => F ((ρ.set x (some (.lst (xs.set k u)))).set y none)
  | _, _ => .er
/-- a tree with a lent list -/
def mdH : Md → Nat → Addr → Md
  | .tr n _ a, k, q => .tr n (some (k, q)) a
  | md, _, _ => md
section
variable {K : PySem.W.Frag} {mg : Str → Option Value} {m m' : Mds} {S0 H0 S S' H H' : Hp} {σ : L2.St} {ρ : Env} {F : Nat → List Addr} {fp : List Addr} {v : V} {d : D}
theorem StF.mds (h : StF K mg m S0 H0 S F σ ρ H) (e : ∀ i d, ρ[i]? = some (some d) → mdAt m' i = mdAt m i) : StF K mg m' S0 H0 S F σ ρ H :=
  ⟨h.1, ⟨h.2.1.len, fun i d ei => by rw [e i d ei]; exact h.2.1.at_ i d ei, h.2.1.nd, h.2.1.apart⟩, h.2.2⟩
/-- as put, the mode of the slot changed, too -/
theorem StF.putM {i : Nat} {d0 d1 : D} {md : Md} {fp' : List Addr} (st : StF K mg m S0 H0 S F σ ρ H) (hi : i < m.length) (hρ : ρ[i]? = some (some d0)) (hσ : σ[i]? = some (some v)) (hch : ∀ a, a ∉ F i → H' a = H a)
    (o : OwnAt K mg S H' fp' v d1 md) (hn : fp'.Nodup) (hf : ∀ a, a ∈ fp' → a ∈ F i ∨ (H0 a = none ∧ ∀ j d, j ≠ i → ρ[j]? = some (some d) → a ∉ F j)) :
    StF K mg (m.set i md) S0 H0 S (F_set F i fp') σ (ρ.set i (some d1)) H' := by
  obtain ⟨s, en, nw⟩ := st
  have hil : i < ρ.length := (List.getElem?_eq_some_iff.mp hρ).1
  have key : ∀ j d', (ρ.set i (some d1))[j]? = some (some d') → (j = i ∧ d' = d1) ∨ (j ≠ i ∧ ρ[j]? = some (some d')) := fun j d' ej => by
    by_cases hj : j = i
    · subst hj
      rw [List.getElem?_set_self hil] at ej
      injection ej with z; injection z with z
      exact .inl ⟨rfl, z.symm⟩
    · rw [List.getElem?_set_ne (Ne.symm hj)] at ej
      exact .inr ⟨hj, ej⟩
  obtain ⟨v0, ev0, o0⟩ := en.at_ i d0 hρ
  have apart : ∀ j d', j ≠ i → ρ[j]? = some (some d') → ∀ a, a ∈ fp' → a ∉ F j := fun j d' hj ej a ha => by
    rcases hf a ha with z | z
    · exact en.apart i j _ d' (Ne.symm hj) hρ ej a z
    · exact z.2 j d' hj ej
  refine ⟨⟨fun a u ea => ?_, s.ss, fun a u ea => ?_, s.new⟩, ⟨by rw [List.length_set]; exact en.len, fun j d' ej => ?_, fun j d' ej => ?_, fun j k a b hjk e1 e2 => ?_⟩, fun j d' ej => ?_⟩
  · rw [hch a (fun z => by rw [nw i _ hρ a z] at ea; cases ea)]
    exact s.hh a u ea
  · rw [hch a (fun z => by rw [(o0.out z).1] at ea; cases ea)]
    exact s.sub a u ea
  · rcases key j d' ej with ⟨rfl, rfl⟩ | ⟨hj, ej'⟩
    · exact ⟨v, hσ, by rw [F_at, mdAt_set hi, if_pos rfl]; exact o⟩
    · obtain ⟨w, e1, o1⟩ := en.at_ j d' ej'
      rw [F_off hj, mdAt_set hi, if_neg hj]
      exact ⟨w, e1, o1.agree fun a ha => hch a (en.apart j i d' _ hj ej' hρ a ha)⟩
  · rcases key j d' ej with ⟨rfl, rfl⟩ | ⟨hj, ej'⟩
    · rw [F_at]; exact hn
    · rw [F_off hj]; exact en.nd j d' ej'
  · rcases key j a e1 with ⟨rfl, rfl⟩ | ⟨hj, e1'⟩
    · rcases key k b e2 with ⟨z, _⟩ | ⟨hk, e2'⟩
      · exact absurd z.symm hjk
      · rw [F_at, F_off hk]; exact apart k b hk e2'
    · rcases key k b e2 with ⟨rfl, rfl⟩ | ⟨hk, e2'⟩
      · rw [F_at, F_off hj]; exact fun x hx z => apart j a hj e1' x z hx
      · rw [F_off hj, F_off hk]; exact en.apart j k a b hjk e1' e2'
  · rcases key j d' ej with ⟨rfl, rfl⟩ | ⟨hj, ej'⟩
    · rw [F_at]; intro a ha
      rcases hf a ha with z | z
      · exact nw _ _ hρ a z
      · exact z.1
    · rw [F_off hj]; exact nw j d' ej'
end
section
variable {X : Cx} {E : WX} {L : Lp} {m m0 m2 mc : Mds} {rest : List Stmt} {j : Expr} {fj : Env → Res D} {F : Nat → FS} {G : FS} {x y : Str} {pos p p1 pos' : Pos}
theorem mdT_tr {n : Nat} {md : Md} (h : IsTr (n + 2) md) : ∃ a, md = .tr (n + 2) none a := by
  rcases h with h | ⟨q, h⟩
  · exact ⟨_, h⟩
  · exact ⟨_, h⟩
theorem jss_bor (n ix iy : Nat) (hj : JE X E m .sh j fj) (h : ∀ k q, JSs X E L ((m.set ix (mdH (mdAt m ix) k q)).set iy (mdL (n + 1) q)) m2 rest (F k)) (hmd : IsTr (n + 2) (mdAt m ix) := by first | exact .inl rfl | exact .inr ⟨_, rfl⟩) (hxy : ix ≠ iy := by decide) (hlx : ix < m.length := by first | decide | simp) (hly : iy < m.length := by first | decide | simp)
    (hNd : X.N.Nodup) (hN : X.N[ix]? = some x := by rfl) (hv : Vis X.env.scope x := by first | exact Or.inl rfl | exact Or.inr (Or.inl rfl) | exact Or.inr (Or.inr rfl)) (hd : (x == ("__debug__" : Str)) = false := by decide) (hcd : (x == ("__classdict__" : Str)) = false := by decide) (hsl : PlainIx j := by intro _ _; rfl)
    (hi : X.N[iy]? = some y := by rfl) (hx : Loc X.env.scope y := by first | exact Or.inl rfl | exact Or.inr rfl)
    (hs : swapsWith (.Subscript (.Name x p) j p1) (some (.Name y pos')) pos.line X.env = pure false := by rfl) (hf : X.fn y = true ∨ X.env.scope.names.lookup y = some .local := by first | exact .inl rfl | exact .inr rfl) :
    JSs X E L m m2 (.Assign [.Name y pos'] (.Subscript (.Name x p) j p1) pos :: rest) (fBor ix iy fj F) := by
  have hr : PSs X rest (fun D σ H => ∃ k q, tS X.K X.mg E L ((m.set ix (mdH (mdAt m ix) k q)).set iy (mdL (n + 1) q)) m2 (F k) D σ H) := ⟨fun pins s σ H D I ⟨k, q, z⟩ => (h k q).ps.run pins s σ H D I z⟩
  refine ⟨PSsimp (pss_cons (ps_set hNd hi hx (pe_ix ix_seq (pe_var hN hv hd hcd) hj.pe hsl) hs hf) hr) fun D σ H h => ?_⟩
  obtain ⟨S0, H0, ρ, ⟨S, Fp, st⟩, p⟩ := h
  unfold fBor at p
  split at p
  · rename_i xs exs
    obtain ⟨v0, e0, _, ot, _⟩ := st.ownT hmd exs
    obtain ⟨pa, vs, ds, fps, rfl, eds, _⟩ := id ot
    refine ⟨_, e0, S, ρ, st.envM, (lift_post st p).post fun dy vy S1 H1 s1 ry k1 => ?_⟩
    cases dy with
    | int z =>
      cases ry
      have k1 : SPost X.K X.mg E L S0 H0 m2 (match ixN xs.length z with
        | some k => (match xs[k]? with
          | some u => F k ((ρ.set ix (some (.lst (xs.set k junk)))).set iy (some u))
          | none => .er)
        | none => .er) D := k1
      cases ek : ixN xs.length z with
      | none => rw [ek] at k1; exact k1.elim
      | some k =>
        rw [ek] at k1
        simp only at k1
        split at k1
        · rename_i u eu
          have st1 := st.step s1
          obtain ⟨v1, e1', oa, ot, nd⟩ := st1.ownT hmd exs
          rw [e0] at e1'
          cases e1'
          obtain ⟨pa', vs, ds, fps, eq, eds, ef, sp, hp, hl, hfl, hin⟩ := id ot
          cases eq; cases eds
          have hkl := (ixN_seq ek).2.1
          have fk : fps[k]? = some (fps[k]'(by omega)) := List.getElem?_eq_getElem (by omega)
          have vk : vs[k]? = some (vs[k]'(by omega)) := List.getElem?_eq_getElem (by omega)
          have oc := hin k _ _ _ vk eu fk
          obtain ⟨q, ws, _, _, eqq, _, _, _, hqq, hlq, _⟩ := id oc
          rw [eqq] at vk oc
          have hat : L2.atI vs z = some (V.ref q) := by
            unfold L2.atI
            rw [hl, ek]
            exact vk
          refine .inl ⟨pa, vs, z, V.ref q, rfl, rfl, .inl (.inl hp), hat, k, q, S0, H0, _, ?_, k1⟩
          have nd2 := nd
          rw [ef, List.nodup_cons, nd_split fk] at nd2
          obtain ⟨a, ea⟩ := mdT_tr hmd
          have dn : ∀ b, b ∈ (fps.set k []).flatten → b ∈ fps.flatten := fun b hb => by
            rcases (set_flat fk b).mp hb with z | ⟨j, h, _, z1, z2⟩
            · cases z
            · exact flat_mem z1 z2
          have oh : OwnAt X.K X.mg S1 H1 (pa :: (fps.set k []).flatten) (.ref pa) (.lst (xs.set k junk)) (mdH (mdAt m ix) k q) := by
            rw [ea] at oa ⊢
            refine ⟨oa.1, pa, vs, xs.set k junk, fps.set k [], rfl, rfl, rfl, sp, hp, by simp [hl], by simp [hfl], vk, List.getElem?_set_self hkl, List.getElem?_set_self (by omega), fun j w e f hjk a b c => ?_⟩
            rw [List.getElem?_set_ne (Ne.symm hjk)] at b c
            exact hin j w e f a b c
          have st2 := st1.putM hlx exs e0 (fun _ _ => rfl) oh (by
            rw [List.nodup_cons]
            exact ⟨fun z => nd2.1 (dn _ z), nd2.2.2.1⟩) (fun b hb => .inl (by
            rw [ef]
            rcases List.mem_cons.mp hb with rfl | hb
            · exact List.mem_cons_self
            · exact List.mem_cons_of_mem _ (dn b hb)))
          have inF : ∀ b, b ∈ (fps[k]'(by omega)) → b ∈ Fp ix := fun b hb => by rw [ef]; exact List.mem_cons_of_mem _ (flat_mem fk hb)
          refine StF.stM (st2.set (i := iy) (d := u) (v := .ref q) (md := mdL (n + 1) q) (fp := fps[k]'(by omega)) (by rw [List.length_set]; exact hly) (mdL_own.mpr ⟨rfl, oc⟩) nd2.2.1 (fun b hb => st1.2.2 ix _ exs b (inF b hb)) fun j' e' hj' ej' b hb hb2 => ?_)
          by_cases hjx : j' = ix
          · subst hjx
            rw [F_at] at hb
            rcases List.mem_cons.mp hb with rfl | hb
            · exact nd2.1 (flat_mem fk hb2)
            · exact nd2.2.2.2 b hb2 hb
          · rw [F_off hjx] at hb
            rw [List.getElem?_set_ne (Ne.symm hjx)] at ej'
            exact st1.2.1.apart ix j' _ e' (Ne.symm hjx) exs ej' b (inF b hb2) hb
        · exact k1.elim
    | _ => exact k1.elim
  · exact p.elim
theorem jss_give (n ix iy k : Nat) (q : Addr) (h : JSs X E L m0 m2 rest G) (hm : mc = (m0.set ix (mdH (mdAt m0 ix) k q)).set iy (mdL (n + 1) q) := by rfl) (hmd : IsTr (n + 2) (mdAt m0 ix) := by first | exact .inl rfl | exact .inr ⟨_, rfl⟩) (hxy : ix ≠ iy := by decide) (hlx : ix < m0.length := by first | decide | simp) (hly : iy < m0.length := by first | decide | simp) :
    JSs X E L mc m2 rest (fGive ix iy k G) := by
  subst hm
  refine ⟨PSsimp h.ps fun D σ H h => ?_⟩
  obtain ⟨S0, H0, ρ, ⟨S, Fp, st⟩, p⟩ := h
  unfold fGive at p
  split at p
  · rename_i xs u exs eu
    refine ⟨S0, H0, _, ?_, p⟩
    obtain ⟨a, ea⟩ := mdT_tr hmd
    obtain ⟨vx, ex, ox⟩ := st.2.1.at_ ix _ exs
    obtain ⟨vy, ey, oy⟩ := st.2.1.at_ iy _ eu
    rw [mdAt_set (by rw [List.length_set]; exact hly), if_pos rfl] at oy
    rw [mdAt_set (by rw [List.length_set]; exact hly), if_neg hxy, mdAt_set hlx, if_pos rfl, ea] at ox
    obtain ⟨rfl, oy⟩ := mdL_own.mp oy
    obtain ⟨oa, pa, vs, ds, fps, rfl, eds, ef, sp, hp, hl, hfl, h1, h2, h3, hin⟩ := ox
    cases eds
    have hkl := (List.getElem?_eq_some_iff.mp h2).1
    have nd := st.2.1.nd ix _ exs
    rw [ef] at nd
    have ndy := st.2.1.nd iy _ eu
    have evs : vs.set k (.ref q) = vs := by
      refine List.ext_getElem? fun j => ?_
      rw [List.getElem?_set]
      split
      · rename_i hj; subst hj; rw [if_pos (by omega)]; exact h1.symm
      · rfl
    have eset : fps.set k [] = fps := by
      refine List.ext_getElem? fun j => ?_
      rw [List.getElem?_set]
      split
      · rename_i hj; subst hj; rw [if_pos (by omega)]; exact h3.symm
      · rfl
    have ow : OwnAt X.K X.mg S H (pa :: (fps.set k (Fp iy)).flatten) (.ref pa) (.lst (xs.set k u)) (mdAt m0 ix) := by
      rw [ea]
      exact ⟨oa, OwnTr.setT (f := []) (w := .ref q) sp hl hfl hin (by rw [evs]; exact hp) oy hkl⟩
    have sty := st.forget (i := iy)
    have exs' : (ρ.set iy none)[ix]? = some (some (.lst xs)) := by rw [List.getElem?_set_ne (Ne.symm hxy)]; exact exs
    have apx := st.2.1.apart ix iy _ _ hxy exs eu
    rw [ef] at apx
    have up : ∀ b, b ∈ (fps.set k (Fp iy)).flatten → b ∈ Fp iy ∨ b ∈ fps.flatten := fun b hb => by
      rcases (set_flat h3 b).mp hb with z | ⟨j, f, _, z1, z2⟩
      · exact .inl z
      · exact .inr (flat_mem z1 z2)
    have st2 := sty.putM (md := mdAt m0 ix) (d1 := .lst (xs.set k u)) (H' := H) (i := ix) (v := .ref pa) (by simp; exact hlx) exs' ex (fun _ _ => rfl) ow (by
      rw [List.nodup_cons] at nd ⊢
      refine ⟨fun z => ?_, ?_⟩
      · rcases up _ z with z | z
        · exact apx pa List.mem_cons_self z
        · exact nd.1 z
      · have fk2 : (fps.set k (Fp iy))[k]? = some (Fp iy) := List.getElem?_set_self (by omega)
        rw [nd_split fk2, List.set_set, eset]
        exact ⟨ndy, nd.2, fun b hb hb2 => apx b (List.mem_cons_of_mem _ hb2) hb⟩) (fun b hb => by
      rcases List.mem_cons.mp hb with rfl | hb
      · exact .inl (by rw [ef]; exact List.mem_cons_self)
      · rcases up b hb with z | z
        · refine .inr ⟨st.2.2 iy _ eu b z, fun j d hj ej => ?_⟩
          by_cases hjy : j = iy
          · subst hjy
            rw [List.getElem?_set] at ej
            rw [if_pos rfl] at ej
            split at ej <;> cases ej
          · rw [List.getElem?_set_ne (Ne.symm hjy)] at ej
            exact st.2.1.apart iy j _ d (Ne.symm hjy) eu ej b z
        · exact .inl (by rw [ef]; exact List.mem_cons_of_mem _ z))
    have ecomm : (ρ.set ix (some (.lst (xs.set k u)))).set iy none = (ρ.set iy none).set ix (some (.lst (xs.set k u))) := List.set_comm _ _ hxy
    rw [ecomm]
    refine StF.stM (st2.mds fun i d ei => ?_)
    have hne : i ≠ iy := fun z => by
      subst z
      rw [List.getElem?_set_ne hxy, List.getElem?_set, if_pos rfl] at ei
      split at ei <;> cases ei
    by_cases hix : i = ix
    · subst hix
      rw [mdAt_set (by simp; exact hlx), if_pos rfl]
    · rw [mdAt_set (by simp; exact hlx), if_neg hix, mdAt_set (by rw [List.length_set]; exact hly), if_neg hne, mdAt_set hlx, if_neg hix]
  · exact p.elim
end
end Da
namespace Da
open PySem PySem.Spec L2
section
variable {K : PySem.W.Frag} {mg : Str → Option Value} {m : Mds} {S0 H0 S S' H H' : Hp} {σ : L2.St} {ρ : Env} {F : Nat → List Addr} {D0 : Addr} {o : HO}
theorem StF.wipe (st : StF K mg m S0 H0 S F σ ρ H) (vs : List Nat) : StF K mg m S0 H0 S F (L2.wipe σ vs) (wipeD ρ vs) H := by
  obtain ⟨s, en, nw⟩ := st
  refine ⟨s, en.wipe vs, fun i d ei => nw i d ?_⟩
  induction vs with
  | nil => exact ei
  | cons v vs ih =>
    unfold wipeD at ei
    rw [List.getElem?_set] at ei
    split at ei
    · split at ei <;> cases ei
    · exact ih ei
end
end Da
namespace Da
open PySem PySem.Spec L2
end Da
namespace Da
open PySem PySem.Spec L2
end Da
namespace Da
open PySem PySem.Spec L2
def tyNames : List String := ["NoneType", "bool", "int", "str", "list", "tuple", "dict"]
theorem tyNm_in {d : D} {a : String} (h : tyNm d = some a) : a ∈ tyNames := by
  cases d <;> first | (cases h; decide) | cases h
/-- what isinstance asks of an object's class -/
def InsK (K : PySem.W.Frag) (C : Addr) : Prop := PySem.W.findIn K (.ref C) "__class__" = some (some (.builtin "object.__class__")) ∧ PySem.W.specialIn K (.builtin "object.__class__") "__get__" = some (some (.builtin "getset_descriptor.__get__")) ∧ PySem.W.takesIn K (.builtin "object.__class__") = some true ∧ PySem.W.mroIn K C (.type "object") = some true
def ClsI (K : PySem.W.Frag) (mg : Str → Option Value) (y : Str) (l : List (Str × Bool)) : Prop := ∃ Y, mg y = some (.ref Y) ∧ (∀ T ∈ tyNames, PySem.W.kitOne K (.type T) (.ref Y) = some false) ∧
  ∀ q ∈ l, ∃ C, mg q.1 = some (.ref C) ∧ Cls K C ∧ InsK K C ∧ PySem.W.kitOne K (.ref C) (.ref Y) = some q.2
def lookB : List (Str × Bool) → Str → Option Bool
  | [], _ => none
  | (c, b) :: l, x => if c = x then some b else lookB l x
theorem lookB_in : ∀ {l : List (Str × Bool)} {x : Str} {b : Bool}, lookB l x = some b → (x, b) ∈ l
  | [], x, b, h => by cases h
  | (c, d) :: l, x, b, h => by
    unfold lookB at h
    split at h
    · rename_i e
      cases h
      rw [e]
      exact List.mem_cons_self
    · exact List.mem_cons_of_mem _ (lookB_in h)
def dIsC (l : List (Str × Bool)) (d : D) : Res D := match d with
  | .obj c _ _ => (match lookB l c with
    | some b => .ok (.bl b)
    | none => .er)
  | d => (match tyNm d with
    | some _ => .ok (.bl false)
    | none => .er)
def clsI_all {K : PySem.W.Frag} {Y : Addr} (h0 : PySem.W.kitOne K (.type "NoneType") (.ref Y) = some false) (h1 : PySem.W.kitOne K (.type "bool") (.ref Y) = some false) (h2 : PySem.W.kitOne K (.type "int") (.ref Y) = some false) (h3 : PySem.W.kitOne K (.type "str") (.ref Y) = some false) (h4 : PySem.W.kitOne K (.type "list") (.ref Y) = some false) (h5 : PySem.W.kitOne K (.type "tuple") (.ref Y) = some false) (h6 : PySem.W.kitOne K (.type "dict") (.ref Y) = some false) : ∀ T ∈ tyNames, PySem.W.kitOne K (.type T) (.ref Y) = some false := fun T hT => by
  unfold tyNames at hT
  simp only [List.mem_cons, List.not_mem_nil, or_false] at hT
  rcases hT with rfl | rfl | rfl | rfl | rfl | rfl | rfl <;> assumption
theorem clsI_mk {K : PySem.W.Frag} {mg : Str → Option Value} {y : Str} {Y : Addr} {l : List (Str × Bool)} (h : mg y = some (.ref Y)) (t : ∀ T ∈ tyNames, PySem.W.kitOne K (.type T) (.ref Y) = some false) (s : ∀ q ∈ l, ∃ C, mg q.1 = some (.ref C) ∧ Cls K C ∧ InsK K C ∧ PySem.W.kitOne K (.ref C) (.ref Y) = some q.2) : ClsI K mg y l := ⟨Y, h, t, s⟩
theorem clsI_nil {K : PySem.W.Frag} {mg : Str → Option Value} {Y : Addr} : ∀ q ∈ ([] : List (Str × Bool)), ∃ C, mg q.1 = some (.ref C) ∧ Cls K C ∧ InsK K C ∧ PySem.W.kitOne K (.ref C) (.ref Y) = some q.2 := fun q h => nomatch h
theorem clsI_cons {K : PySem.W.Frag} {mg : Str → Option Value} {Y C : Addr} {c : Str} {b : Bool} {l : List (Str × Bool)} (h : mg c = some (.ref C)) (cl : Cls K C) (i : InsK K C) (e : PySem.W.kitOne K (.ref C) (.ref Y) = some b) (t : ∀ q ∈ l, ∃ C, mg q.1 = some (.ref C) ∧ Cls K C ∧ InsK K C ∧ PySem.W.kitOne K (.ref C) (.ref Y) = some q.2) : ∀ q ∈ (c, b) :: l, ∃ C, mg q.1 = some (.ref C) ∧ Cls K C ∧ InsK K C ∧ PySem.W.kitOne K (.ref C) (.ref Y) = some q.2 := fun q hq => by
  rcases List.mem_cons.mp hq with z | z
  · subst z; exact ⟨C, h, cl, i, e⟩
  · exact t q z
section
variable {X : Cx} {E : WX} {m : Mds} {a : Expr} {fa : Env → Res D} {pos p p2 : Pos} {y : Str} {l : List (Str × Bool)}
theorem je_isC (hm : X.mg "isinstance" = none) (hY : ClsI X.K X.mg y l) (ha : JE X E m .sh a fa) (hg : Gl X "isinstance" := by rfl) (hgY : Gl X y := by rfl) (hdb : (y == ("__debug__" : Str)) = false := by decide)
    (he : starEach [a, .Name y p2] X.env = (false, eval a X.env) :: starEach [.Name y p2] X.env := by rfl) (he2 : starEach [.Name y p2] X.env = (false, eval (.Name y p2) X.env) :: starEach [] X.env := by rfl) (hpl : (backTo pos (starEach [.Name y p2] X.env)).any (·.1) = false := by rfl) :
    JE X E m .sh (.Call (.Name "isinstance" p) [a, .Name y p2] [] pos) (f1 (dIsC l) fa) := by
  obtain ⟨Y, hy, ht, hc⟩ := hY
  refine ⟨PEimp (pe_callB call_isi hg hm (by decide +kernel) (pa_cons ha.pe (pa_cons (pe_glob (v := .ref Y) hgY hy rfl hdb) pa_nil he2) he) (by decide) (by decide) he hpl) fun σ H Q h => ?_⟩
  obtain ⟨S, ρ, hm, hp⟩ := h
  refine ⟨S, ρ, hm, (Post.bind hp).post fun d v S1 H1 s1 r k => ?_⟩
  have base : ∀ {a : String}, tyNm d = some a → dIsC l d = .ok (.bl false) → rIsi X.K [v, .ref Y] H1 Q := fun {a} ea ed => by
    rw [ed] at k
    exact ⟨v, .ref Y, .type a, .ref Y, false, rfl, .own Y, tyx_of s1.sub r ea, ht a (tyNm_in ea), k.val s1.sub (.bl _)⟩
  cases d with
  | obj c ns ds =>
    unfold dIsC at k
    simp only at k
    cases eb : lookB l c with
    | none => rw [eb] at k; exact k.elim
    | some b =>
      rw [eb] at k
      obtain ⟨C, gC, cl, hk, ek⟩ := hc _ (lookB_in eb)
      cases r with
      | @obj a C' dx _ fs _ hS hM hl hi =>
        have : C' = C := by rw [hM] at gC; injection gC with z; injection z
        subst this
        exact ⟨_, .ref Y, .ref C', .ref Y, b, rfl, .own Y, .base (.ins (s1.sub _ _ hS) cl hk.1 hk.2.1 hk.2.2.1 hk.2.2.2), ek, k.val s1.sub (.bl _)⟩
  | exc c ns ds => exact k.elim
  | non => exact base rfl rfl
  | bl _ => exact base rfl rfl
  | int _ => exact base rfl rfl
  | str _ => exact base rfl rfl
  | lst _ => exact base rfl rfl
  | frl _ => exact base rfl rfl
  | tup _ => exact base rfl rfl
  | dic _ _ => exact base rfl rfl
  | dit _ _ => exact base rfl rfl
end
/-- x.append(y): y's list is given away -/
def fAppMv (i j : Nat) : FS := fun ρ => match ρ[i]?, ρ[j]? with
  | some (some (.lst xs)), some (some d) => if szOk (xs.length + 1) = true then .ok (.nx ((ρ.set j none).set i (some (.lst (xs ++ [d]))))) else .er
  | _, _ => .er
section
variable {X : Cx} {E : WX} {L : Lp} {m : Mds} {x y : Str} {pos p1 p2 p3 p4 : Pos}
theorem js_appMv (n i j : Nat) (hmd : IsTr (n + 2) (mdAt m i) := by first | exact .inl rfl | exact .inr ⟨_, rfl⟩) (hmj : IsTr (n + 1) (mdAt m j) := by first | exact .inl rfl | exact .inr ⟨_, rfl⟩) (hij : i ≠ j := by decide) (hN : X.N[i]? = some x := by rfl) (hv : Vis X.env.scope x := by first | exact Or.inl rfl | exact Or.inr (Or.inl rfl) | exact Or.inr (Or.inr rfl))
    (hd : (x == ("__debug__" : Str)) = false := by decide) (hcd : (x == ("__classdict__" : Str)) = false := by decide)
    (hNj : X.N[j]? = some y := by rfl) (hvj : Vis X.env.scope y := by first | exact Or.inl rfl | exact Or.inr (Or.inl rfl) | exact Or.inr (Or.inr rfl)) (hdj : (y == ("__debug__" : Str)) = false := by decide) (hcdj : (y == ("__classdict__" : Str)) = false := by decide)
    (hs : swapsWith (.Call (.Attribute (.Name x p1) "append" p2) [.Name y p4] [] p3) none pos.line X.env = pure false := by rfl)
    (hpe : ∀ {to te : TE}, PE X (.Name x p1) to → PE X (.Name y p4) te → PE X (.Call (.Attribute (.Name x p1) "append" p2) [.Name y p4] [] p3) (tBM X.K "list" rAppend to (tCons te tNil)) := by
      intro to te ho he
      exact pe_bm PySem.F.plainAttrs_list PySem.F.slot_list_append PySem.F.type_list_append mt_append ho (pa_cons he pa_nil)) :
    JS X E L m m (.Expr (.Call (.Attribute (.Name x p1) "append" p2) [.Name y p4] [] p3) pos) (fAppMv i j) := by
  refine ⟨PSimp (ps_expr (hpe (pe_var hN hv hd hcd) (pe_var hNj hvj hdj hcdj)) hs) fun Dn σ H h => ?_⟩
  obtain ⟨S0, H0, ρ, ⟨S, Fp, st⟩, p⟩ := h
  unfold fAppMv at p
  split at p
  · rename_i xs d exs ed
    split at p
    · rename_i hz
      obtain ⟨v0, e1, oa, ot, nd⟩ := st.ownT hmd exs
      obtain ⟨vj, ej, _, oj, ndj⟩ := st.ownT hmj ed
      obtain ⟨q, ws, ds, fps, rfl, eds, ef, sq, hq, hl, hfl, hin⟩ := id ot
      cases eds
      refine ⟨_, e1, .inl ⟨rfl, ws, .inl (.inl hq)⟩, _, ej, q, ws, vj, rfl, rfl, hq, by rw [hl]; exact szOk_lt hz, ?_⟩
      have apx := st.2.1.apart i j _ _ hij exs ed
      obtain ⟨q', ws', eq', hq', hl', hqf, f', ot', hn', hf'⟩ := ot.app nd oj ndj fun a ha hb => apx a hb ha
      obtain rfl : q' = q := by injection eq' with z; exact z.symm
      rw [hq] at hq'
      cases hq'
      have sty := st.forget (i := j)
      have exs' : (ρ.set j none)[i]? = some (some (.lst xs)) := by rw [List.getElem?_set_ne (Ne.symm hij)]; exact exs
      refine p σ _ (StF.stM (sty.put exs' e1 (fun a ha => upd_ne fun z => ha (by rw [z]; exact hqf)) (hmd.back oa ot') hn' fun a ha => ?_))
      rcases hf' a ha with z | z
      · exact .inl z
      · refine .inr ⟨st.2.2 j _ ed a z, fun k dk hk ek => ?_⟩
        by_cases hkj : k = j
        · subst hkj
          rw [List.getElem?_set, if_pos rfl] at ek
          split at ek <;> cases ek
        · rw [List.getElem?_set_ne (Ne.symm hkj)] at ek
          exact st.2.1.apart j k _ dk (Ne.symm hkj) ed ek a z
    · exact p.elim
  · exact p.elim
end
end Da
namespace Da
open PySem PySem.Spec L2
def f3 (g : D → D → D → Res D) (fa fb fc : Env → Res D) : Env → Res D := fun ρ => (fa ρ).bind fun x => (fb ρ).bind fun y => (fc ρ).bind fun z => g x y z
end Da
namespace Da
open PySem PySem.Spec L2
inductive MgAll (mg : Str → Option Value) : List Str → List Addr → Prop
  | nil : MgAll mg [] []
  | cons {y : Str} {Y : Addr} {ys : List Str} {Ys : List Addr} (h : mg y = some (.ref Y)) (t : MgAll mg ys Ys) : MgAll mg (y :: ys) (Y :: Ys)
theorem MgAll.eq {mg : Str → Option Value} : ∀ {ys : List Str} {Ys Zs : List Addr}, MgAll mg ys Ys → MgAll mg ys Zs → Ys = Zs
  | _, _, _, .nil, .nil => rfl
  | _, _, _, .cons h t, .cons h' t' => by
    rw [h] at h'
    have := Option.some.inj h'
    injection this with this
    rw [this, MgAll.eq t t']
end Da
namespace Da
open PySem PySem.Spec PyProof.Rows L2
theorem sumT_raw {prog : Program} {w : World} {A : Around} {E : Value → Shared → Prop} {s : Shared} {l : Addr} {its : List Value} {ns : List Int} {Q : Value → Shared → Prop} (hh : A.handled = none) (hl : s.heap.IsTuple l its.toArray) (hi : IntsAre its ns)
    (h : ∀ h' tk t', (∀ b o, s.heap.get? b = some o → h'.get? b = some o) → Q (.int ns.sum t') { s with heap := h', toks := tk }) : wpAny (model prog w) A (call (.builtin "sum") [.ref l]) Q E s := by
  obtain ⟨xs, e⟩ := hi.allInts.items
  have hn : numsOf (intItems xs).toList = ns := by rw [← e]; exact hi.numsOf
  rw [nums_intItems] at hn
  rw [e] at hl
  refine PySem.W.ktm_sumG hh hl fun h' tk t' hk => ?_
  have := h h' tk t' hk
  rw [preSum_eq, List.take_of_length_le (by simp), hn]; exact this
section
variable {X : Cx} {E : WX} {m : Mds} {e : Expr} {fs : Env → Res (List D)} {p pos : Pos}
def rSumTp (K : PySem.W.Frag) : List V → Hp → VK → Prop := fun vs H Q => ∃ (a : Addr) (ns : List Int), vs = [V.ref a] ∧ SqT K H a (ns.map V.int) ∧ Q (.int ns.sum) H
theorem cr_sumTp (hc : X.calm = true) : CallR X (.builtin "sum") (rSumTp X.K) := by
  intro pins s σ H vs us Q I r h
  obtain ⟨a, ns, rfl, hs, q⟩ := h
  obtain ⟨its, rv, hl, _⟩ := I.tuple hs
  rw [Vals.ref1 r]
  exact sumT_raw (I.ok.hd hc) hl rv.ints fun h' tk t' hk => ⟨.int _, H, I.kept hk, ⟨_, rfl⟩, q⟩
def dSumT : D → Res D
  | .tup xs => match intsD xs with
    | some ns => .ok (.int ns.sum)
    | none => .er
  | _ => .er
theorem je_sumT (hm : X.mg "sum" = none) (ha : JA X E m [e] fs) (hc : X.calm = true := by rfl) (hg : Gl X "sum" := by rfl) (he : starEach [e] X.env = (false, eval e X.env) :: starEach [] X.env := by rfl) : JE X E m .sh (.Call (.Name "sum" p) [e] [] pos) (fOn (on1 dSumT) fs) :=
  je_callB (cr_sumTp hc) (calld1 fun E S H x d Q hs rx hp => by
    cases d with
    | tup xs =>
      obtain ⟨a, vs, rfl, ha, rv⟩ := rx.of_tupS
      simp only [dSumT] at hp
      split at hp
      · rename_i ns en
        rw [intsD_ok en] at rv
        exact ⟨a, ns, rfl, by rw [← rv.ints]; exact .inl (.inl (hs _ _ ha)), hp.val hs (.int _)⟩
      · exact hp.elim
    | _ => exact (show False from hp).elim) hm ha hg (by decide +kernel) (by decide) (by decide) he (by rfl)
end
end Da
namespace Da
open PySem PySem.Spec L2
end Da
namespace Da
open PySem PySem.Spec L2
end Da
namespace Da
open PySem PySem.Spec L2
end Da
namespace Da
open PySem PySem.Spec L2
end Da
namespace Da
open PySem PySem.Spec L2
end Da
namespace Da
open PySem PySem.Spec PyProof.Rows L2
end Da
namespace Da
open PySem PySem.Spec L2
end Da
namespace Da
open PySem PySem.Spec PyProof.Rows L2
end Da
namespace Da
open PySem PySem.Spec L2 PyProof.Rows
section
variable {X : Cx} {E : WX} {m : Mds} {a b e : Expr} {fa fb : Env → Res D} {pos : Pos} {c : Str} {k : Nat} {ps : List Str} {g : List D → Res D}
def rEqO (K : PySem.W.Frag) (mg : Str → Option Value) (c : Str) (g : List D → Res D) : R2 := fun x y H Q => ∃ (S : Hp) (dx dy : D) (r : Bool), Same S H ∧ Rep K mg S x dx ∧ Rep K mg S y dy ∧
  (∃ (t C d : Addr) (fs : List (Str × V)), x = V.ref t ∧ mg c = some (.ref C) ∧ H t = some (.ins C d fs)) ∧ (∃ (t C d : Addr) (fs : List (Str × V)), y = V.ref t ∧ mg c = some (.ref C) ∧ H t = some (.ins C d fs)) ∧
  g [dx, dy] = .ok (.bl r) ∧ ∀ S' H', Step S H S' H' → Q (.bl r) H'
theorem op_eqO (G : KeepsM X.prog X.w X.K X.mg X.base c "__eq__" k ps 2 .sh g) (hr : Room k X.A) : OpR X (compareOp .Eq) (rEqO X.K X.mg c g) := by
  obtain ⟨C, f, fd, hC, cl, me, hb, F⟩ := G
  intro pins s σ H x y v u Q I rx ry h
  obtain ⟨S, dx, dy, r, hs, r1, r2, ⟨t1, C1, d1, f1, rfl, e1, h1⟩, ⟨t2, C2, d2, f2, rfl, e2, h2⟩, hg, q⟩ := h
  rw [hC] at e1 e2
  injection e1 with e1
  injection e1 with e1
  injection e2 with e2
  injection e2 with e2
  subst e1 e2
  cases rx
  cases ry
  obtain ⟨mA, J, _⟩ := ins_get I.hok h1
  obtain ⟨mB, J', _⟩ := ins_get I.hok h2
  obtain ⟨od, J, _⟩ := J.look
  obtain ⟨od', J', _⟩ := J'.look
  obtain ⟨mm, hF⟩ := I.fr
  show wpAny (model X.prog X.w) X.A (richCompare .Eq (.ref t1) (.ref t2)) (EP X pins σ Q) X.xe s
  refine PySem.W.cmp_K (op := .Eq) (tb := .ref C) hr.units0 hF I.ok.mod.kin J J'.type (by simp [PySem.W.notFirst]) me.at_ me.fn ?_
  have hsp : spD X.K X.mg 2 .sh g [.ref t1, .ref t2] H (fun v H' => v = .bl r ∧ ∃ S', Step S H S' H') (fun _ _ _ => False) := by
    refine ⟨S, [dx, dy], hs, .cons r1 (.cons r2 .nil), ?_⟩
    rw [show chk 2 g [dx, dy] = .ok (.bl r) from hg]
    intro v S' H' fp st ow _ _
    exact ⟨Rep.of_bl ow.1, S', st⟩
  have hl := F.len _ _ _ _ hsp
  have rv : Vals [V.ref t1, V.ref t2] [Value.ref t1, Value.ref t2] := .cons rfl (.cons rfl .nil)
  refine wpAny_call (codeAny_mono (F.run X.A X.stack s H ⟨[.ref t1, .ref t2], []⟩ [.ref t1, .ref t2] [.ref t1, .ref t2] _ _ hr I.env0 (by
    have := hb s [.ref t1, .ref t2] I.kIn (by simpa using hl)
    simpa using this) rv hsp) fun r' s' hq => ?_)
  cases r' with
  | error e =>
    obtain ⟨_, _, _, _, _, _, _, _, _, _, _, _, z⟩ := hq
    exact z.elim
  | ok fl =>
    cases fl with
    | ret w =>
      obtain ⟨z, H', I', rz, ez, S', st⟩ := I.after hq
      subst ez
      cases rz
      exact ⟨.bl r, H', I', rfl, q S' H' st⟩
    | next => exact False.elim hq
    | brk => exact False.elim hq
    | cont => exact False.elim hq
def dEqO (c : Str) (g : List D → Res D) : D → D → Res D := fun x y => match x, y with
  | .obj c1 n1 d1, .obj c2 n2 d2 => if c1 = c ∧ c2 = c then (match g [.obj c1 n1 d1, .obj c2 n2 d2] with
    | .ok (.bl r) => .ok (.bl r)
    | _ => .er) else .er
  | _, _ => .er
theorem opd_eqO {K : PySem.W.Frag} {mg : Str → Option Value} : OpD K mg .sh (rEqO K mg c g) (dEqO c g) := by
  intro E S H x y dx dy Q hs rx ry hp
  unfold dEqO at hp
  split at hp
  · rename_i c1 n1 d1 c2 n2 d2
    split at hp
    · rename_i hc
      obtain ⟨rfl, rfl⟩ := hc
      split at hp
      · rename_i r hg
        obtain ⟨t1, C1, e1, f1, rfl, q1, m1, _, _⟩ := id rx.of_obj
        obtain ⟨t2, C2, e2, f2, rfl, q2, m2, _, _⟩ := id ry.of_obj
        refine ⟨S, _, _, r, hs, rx, ry, ⟨t1, C1, e1, f1, rfl, m1, hs _ _ q1⟩, ⟨t2, C2, e2, f2, rfl, m2, hs _ _ q2⟩, hg, fun S' H' st => ?_⟩
        exact (Post.step st hp).val st.sub (.bl _)
      · exact hp.elim
    · exact hp.elim
  · exact hp.elim
theorem je_eqO (G : KeepsM X.prog X.w X.K X.mg X.base c "__eq__" k ps 2 .sh g) (hr : Room k X.A) (ha : JE X E m .sh a fa) (hb : JE X E m .sh b fb) : JE X E m .sh (.Compare a [.Eq] [b] pos) (f2 (dEqO c g) fa fb) :=
  je_cmp (op_eqO G hr) opd_eqO ha hb (nomark _)
end
end Da
namespace Da
open PySem PySem.Spec L2 PyProof.Rows
end Da
namespace Da
open PySem PySem.Spec L2 PyProof.Rows
/-- the class stands first in its own order -/
def SelfF (K : PySem.W.Frag) (mg : Str → Option Value) (c : Str) : Prop := ∀ C, mg c = some (.ref C) → PySem.W.selfFirst K C = true
theorem selfF_mk {K : PySem.W.Frag} {mg : Str → Option Value} {c : Str} {C : Addr} (hc : mg c = some (.ref C)) (h : PySem.W.selfFirst K C = true) : SelfF K mg c := fun C' h' => by
  rw [hc] at h'
  cases h'
  exact h
section
variable {X : Cx} {E : WX} {m : Mds} {a b e : Expr} {fa fb : Env → Res D} {pos : Pos} {c mn : Str} {k : Nat} {ps : List Str} {g : List D → Res D} {op : Operator}
def InsOf (mg : Str → Option Value) (c : Str) (H : Hp) (x : V) : Prop := ∃ (t C d : Addr) (fs : List (Str × V)), x = V.ref t ∧ mg c = some (.ref C) ∧ H t = some (.ins C d fs)
def rBinO (K : PySem.W.Frag) (mg : Str → Option Value) (c : Str) (g : List D → Res D) : R2 := fun x y H Q => ∃ (S : Hp) (dx dy : D) (cr : Str) (nr : List Str) (dr : List D), Same S H ∧ Rep K mg S x dx ∧ Rep K mg S y dy ∧
  InsOf mg c H x ∧ InsOf mg c H y ∧ g [dx, dy] = .ok (.obj cr nr dr) ∧ ∀ z S' H', Step S H S' H' → Rep K mg S' z (.obj cr nr dr) → Q z H'
theorem op_binO (G : KeepsM X.prog X.w X.K X.mg X.base c mn k ps 2 .sh g) (sf : SelfF X.K X.mg c) (hr : Room k X.A) (hn : PySem.dunder op.info.2 = mn := by rfl) : OpR X (binaryOp op) (rBinO X.K X.mg c g) := by
  obtain ⟨C, f, fd, hC, cl, me, hb, F⟩ := G
  intro pins s σ H x y v u Q I rx ry h
  obtain ⟨S, dx, dy, cr, nr, dr, hs, r1, r2, ⟨t1, C1, d1, f1, rfl, e1, h1⟩, ⟨t2, C2, d2, f2, rfl, e2, h2⟩, hg, q⟩ := h
  have hsf := sf C hC
  rw [hC] at e1 e2
  injection e1 with e1
  injection e1 with e1
  injection e2 with e2
  injection e2 with e2
  subst e1 e2
  cases rx
  cases ry
  obtain ⟨mA, J, _⟩ := ins_get I.hok h1
  obtain ⟨mB, J', _⟩ := ins_get I.hok h2
  obtain ⟨od, J, _⟩ := J.look
  obtain ⟨od', J', _⟩ := J'.look
  obtain ⟨mm, hF⟩ := I.fr
  refine PySem.W.binop_K (op := op) hF I.ok.mod.kin J J'.type hsf (by rw [hn]; exact me.at_) me.fn ?_
  have hsp : spD X.K X.mg 2 .sh g [.ref t1, .ref t2] H (fun z H' => ∃ S', Step S H S' H' ∧ Rep X.K X.mg S' z (.obj cr nr dr)) (fun _ _ _ => False) := by
    refine ⟨S, [dx, dy], hs, .cons r1 (.cons r2 .nil), ?_⟩
    rw [show chk 2 g [dx, dy] = .ok (.obj cr nr dr) from hg]
    intro v S' H' fp st ow _ _
    exact ⟨S', st, ow.1⟩
  have hl := F.len _ _ _ _ hsp
  have rv : Vals [V.ref t1, V.ref t2] [Value.ref t1, Value.ref t2] := .cons rfl (.cons rfl .nil)
  refine wpAny_call (codeAny_mono (F.run X.A X.stack s H ⟨[.ref t1, .ref t2], []⟩ [.ref t1, .ref t2] [.ref t1, .ref t2] _ _ hr I.env0 (by
    have := hb s [.ref t1, .ref t2] I.kIn (by simpa using hl)
    simpa using this) rv hsp) fun r' s' hq => ?_)
  cases r' with
  | error e =>
    obtain ⟨_, _, _, _, _, _, _, _, _, _, _, _, z⟩ := hq
    exact z.elim
  | ok fl =>
    cases fl with
    | ret w =>
      obtain ⟨z, H', I', rz, S', st, rr⟩ := I.after hq
      have q2 := q z S' H' st rr
      obtain ⟨tz, Cz, ez, fz, hz, _⟩ := id rr.of_obj
      rw [hz] at rz q2
      cases rz
      exact ⟨.ref tz, H', I', rfl, q2⟩
    | next => exact False.elim hq
    | brk => exact False.elim hq
    | cont => exact False.elim hq
def dBinO (c : Str) (g : List D → Res D) : D → D → Res D := fun x y => match x, y with
  | .obj c1 n1 d1, .obj c2 n2 d2 => if c1 = c ∧ c2 = c then (match g [.obj c1 n1 d1, .obj c2 n2 d2] with
    | .ok (.obj cr nr dr) => .ok (.obj cr nr dr)
    | _ => .er) else .er
  | _, _ => .er
theorem opd_binO {K : PySem.W.Frag} {mg : Str → Option Value} : OpD K mg .sh (rBinO K mg c g) (dBinO c g) := by
  intro E S H x y dx dy Q hs rx ry hp
  unfold dBinO at hp
  split at hp
  · rename_i c1 n1 d1 c2 n2 d2
    split at hp
    · rename_i hc
      obtain ⟨rfl, rfl⟩ := hc
      split at hp
      · rename_i cr nr dr hg
        obtain ⟨t1, C1, e1, f1, rfl, q1, m1, _, _⟩ := id rx.of_obj
        obtain ⟨t2, C2, e2, f2, rfl, q2, m2, _, _⟩ := id ry.of_obj
        refine ⟨S, _, _, cr, nr, dr, hs, rx, ry, ⟨t1, C1, e1, f1, rfl, m1, hs _ _ q1⟩, ⟨t2, C2, e2, f2, rfl, m2, hs _ _ q2⟩, hg, fun z S' H' st rr => ?_⟩
        exact (Post.step st hp).val st.sub rr
      · exact hp.elim
    · exact hp.elim
  · exact hp.elim
theorem je_addO (G : KeepsM X.prog X.w X.K X.mg X.base c "__add__" k ps 2 .sh g) (sf : SelfF X.K X.mg c) (hr : Room k X.A) (ha : JE X E m .sh a fa) (hb : JE X E m .sh b fb) : JE X E m .sh (.BinOp a .Add b pos) (f2 (dBinO c g) fa fb) := je_op (op_binO G sf hr) opd_binO ha hb
end
end Da
namespace Da
open PySem PySem.Spec L2
open PyProof.Rows
/-- an iterator at j that goes along the items xs of what stands at l -/
structure Wlk (P : Program) (w : World) (St : Heap → Nat → Prop) (j l : Addr) (xs : Array Value) : Prop where
  keep : ∀ {h h' : Heap} {k : Nat}, St h k → (∀ o, h.get? j = some o → h'.get? j = some o) → (∀ o, h.get? l = some o → h'.get? l = some o) → St h' k
  item : ∀ {A : Around} {E : Value → Shared → Prop} {s : Shared} {k : Nat} {x : Value} {Q : Value → Shared → Prop}, St s.heap k → xs[k]? = some x →
    (∀ h', St h' (k + 1) → Heap.SameBut j s.heap h' → Q x { s with heap := h' }) → wpAny (model P w) A (Builtin.SmallTypes.nextOf (.ref j)) Q E s
  stop : ∀ {A : Around} {E : Value → Shared → Prop} {s : Shared} {k : Nat} {Q : Value → Shared → Prop}, A.handled = none → St s.heap k → xs[k]? = none →
    (∀ h' e, Heap.ExtBut j s.heap h' → (∃ o, h'.get? e = some o ∧ o.cls = .type "StopIteration") → E (.ref e) { s with heap := h' }) → wpAny (model P w) A (Builtin.SmallTypes.nextOf (.ref j)) Q E s
theorem wlk_l {P : Program} {w : World} {j l : Addr} {xs : Array Value} (ne : l ≠ j) : Wlk P w (fun h k => h.IsListIter j l k ∧ h.IsList l xs) j l xs where
  keep := fun st a b => ⟨st.1.at a, st.2.at b⟩
  item := fun st hx q => wpAny_nextOf_list_item st.1 st.2 hx fun h' a b => q h' ⟨a, st.2.extBut b.extBut ne⟩ b
  stop := fun hh st hx q => wpAny_nextOf_list_end hh st.1 st.2 hx q
theorem wlk_t {P : Program} {w : World} {j l : Addr} {xs : Array Value} (ne : l ≠ j) : Wlk P w (fun h k => h.IsTupleIter j l k ∧ h.IsTuple l xs) j l xs where
  keep := fun st a b => ⟨st.1.at a, st.2.at b⟩
  item := fun st hx q => RZ.nextOf_tuple_item st.1 st.2 hx fun h' a b => q h' ⟨a, st.2.extBut b.extBut ne⟩ b
  stop := fun hh st hx q => RZ.nextOf_tuple_end hh st.1 st.2 hx q
section
variable {P : Program} {w : World} {A : Around} {E : Value → Shared → Prop} {s : Shared} {S1 S2 : Heap → Nat → Prop} {z ti tp j1 j2 l1 l2 : Addr} {k1 k2 : Nat} {xs ys : Array Value} {a b : Value}
/-- one turn: both have an item -/
theorem zm_item {x y : Value} {Q : Value → Shared → Prop} (D : ZipApart z ti tp j1 j2 l1 l2) (W1 : Wlk P w S1 j1 l1 xs) (W2 : Wlk P w S2 j2 l2 ys)
    (gz : IsZip s.heap z ti tp .none) (gi : IsPair s.heap ti (.ref j1) (.ref j2)) (gp : IsPair s.heap tp a b) (g1 : S1 s.heap k1) (g2 : S2 s.heap k2) (hx : xs[k1]? = some x) (hy : ys[k2]? = some y)
    (q : ∀ h', IsZip h' z ti tp (rawInt s.heap.objs.size) → IsPair h' tp x y → S1 h' (k1 + 1) → S2 h' (k2 + 1) → IsPair h' s.heap.objs.size x y → h'.objs.size = s.heap.objs.size + 1 →
      (∀ c o, c ≠ z → c ≠ tp → c ≠ j1 → c ≠ j2 → s.heap.get? c = some o → h'.get? c = some o) → Q (.ref s.heap.objs.size) { s with heap := h' }) :
    wpAny (model P w) A (Builtin.«zip.__next__» ⟨[.ref z], []⟩) (fun fin s' => ∃ v, fin = .done (.ret v) ∧ Q v s') E s := by
  show wpAny _ _ (field (.ref z) 2 >>= _) _ _ _; refine wpAny_bind (wpAny_field gz rfl (x := .bool false) rfl ?_)
  show wpAny _ _ (field (.ref z) 3 >>= _) _ _ _; refine wpAny_bind (wpAny_field gz rfl (x := .ref ti) rfl ?_)
  refine wpAny_bind (wpAny_seqItems gi rfl ?_); show wpAny _ _ (Builtin.SmallTypes.ownedTupleIsFree (.ref z) >>= _) _ _ _
  refine wpAny_bind ?_; unfold Builtin.SmallTypes.ownedTupleIsFree; refine wpAny_bind (wpAny_field gz rfl (x := .none) rfl (wpAny_pure ?_))
  simp only [if_true]; refine wpAny_bind (wpAny_rule ?_); refine wpAny_bind (wpAny_field gz rfl (x := .ref tp) rfl ?_)
  refine wpAny_bind (wpAny_setField_rec gz (by simp) fun ha za sa => ?_)
  replace za : IsZip ha z ti tp .ellipsis := za
  refine wpAny_bind ?_; simp only [List.zipIdx_cons, List.forIn_cons, List.zipIdx_nil, List.forIn_nil]
  refine wpAny_bind (wpAny_bind (wpAny_onRaise ?_)); show wpAny _ _ (Builtin.SmallTypes.nextOf (.ref j1) >>= _) _ _ _
  refine wpAny_bind (W1.item (W1.keep g1 (fun o e => sa.extBut _ _ D.i1z e) fun o e => sa.extBut _ _ D.l1z e) hx fun hb b1 sb => wpAny_pure ?_)
  have pb : IsPair hb tp a b := sb.extBut _ _ D.TOi1 (sa.extBut _ _ D.TOz gp)
  refine wpAny_bind (wpAny_seqItems pb rfl ?_); refine wpAny_bind (wpAny_updateSeq_pair pb fun hc pc sc => ?_)
  replace pc : IsPair hc tp x b := pc
  refine wpAny_bind (wpAny_letGo (wpAny_pure ?_)); refine wpAny_bind (wpAny_bind (wpAny_onRaise ?_)); show wpAny _ _ (Builtin.SmallTypes.nextOf (.ref j2) >>= _) _ _ _
  refine wpAny_bind (W2.item (W2.keep g2 (fun o e => sc.extBut _ _ D.TOi2.symm (sb.extBut _ _ D.i12.symm (sa.extBut _ _ D.i2z e))) fun o e => sc.extBut _ _ D.l2TO (sb.extBut _ _ D.l2i1 (sa.extBut _ _ D.l2z e))) hy fun hd d2 sd => wpAny_pure ?_)
  have pd : IsPair hd tp x b := sd.extBut _ _ D.TOi2 pc
  refine wpAny_bind (wpAny_seqItems pd rfl ?_); refine wpAny_bind (wpAny_updateSeq_pair pd fun he pe se => ?_)
  replace pe : IsPair he tp x y := pe
  refine wpAny_bind (wpAny_letGo (wpAny_pure (wpAny_pure ?_))); refine wpAny_bind (wpAny_seqItems pe rfl ?_); refine wpAny_bind (wpAny_newTuple ?_)
  have ez : he.objs.size = s.heap.objs.size := by rw [se.1, sd.1, sc.1, sb.1, sa.1]
  have ze : IsZip he z ti tp .ellipsis := se.extBut _ _ D.TOz.symm (sd.extBut _ _ D.i2z.symm (sc.extBut _ _ D.TOz.symm (sb.extBut _ _ D.i1z.symm za)))
  have kp : ∀ c o, c ≠ z → c ≠ tp → c ≠ j1 → c ≠ j2 → s.heap.get? c = some o → he.get? c = some o := fun c o c1 c2 c3 c4 e => se.extBut _ _ c2 (sd.extBut _ _ c4 (sc.extBut _ _ c2 (sb.extBut _ _ c3 (sa.extBut _ _ c1 e))))
  have e1 : S1 he (k1 + 1) := W1.keep b1 (fun o e => se.extBut _ _ D.TOi1.symm (sd.extBut _ _ D.i12 (sc.extBut _ _ D.TOi1.symm e))) fun o e => se.extBut _ _ D.l1TO (sd.extBut _ _ D.l1i2 (sc.extBut _ _ D.l1TO e))
  have e2 : S2 he (k2 + 1) := W2.keep d2 (fun o e => se.extBut _ _ D.TOi2.symm e) fun o e => se.extBut _ _ D.l2TO e
  have lz : z < he.objs.size := Heap.lt_size ze
  show wpAny _ _ (Builtin.SmallTypes.ownedTupleHandOut (.ref z) (.ref he.objs.size) >>= _) _ _ _
  refine wpAny_bind ?_; unfold Builtin.SmallTypes.ownedTupleHandOut
  have zf : IsZip (he.push { cls := .type "tuple", data := .seq #[x, y] }) z ti tp .ellipsis := Heap.get?_push_of_some _ ze
  refine wpAny_bind (wpAny_setField_rec zf (by simp) fun hg zg sg => ?_)
  replace zg : IsZip hg z ti tp (rawInt he.objs.size) := zg
  refine wpAny_setField_rec zg (by simp) fun hk zk sk => ?_
  replace zk : IsZip hk z ti tp (rawInt he.objs.size) := zk
  have up : ∀ c o, c ≠ z → he.get? c = some o → hk.get? c = some o := fun c o c1 e => sk.extBut _ _ c1 (sg.extBut _ _ c1 (Heap.get?_push_of_some _ e))
  have pk : IsPair hk he.objs.size x y := sk.extBut _ _ (Nat.ne_of_gt lz) (sg.extBut _ _ (Nat.ne_of_gt lz) (Heap.get?_push_size _ rfl))
  have nk : hk.objs.size = he.objs.size + 1 := by rw [sk.1, sg.1, Heap.size_push]
  rw [ez] at zk pk nk
  refine wpAny_pure ⟨_, rfl, ?_⟩; show Q (.ref he.objs.size) _
  rw [ez]
  exact q hk zk (up _ _ D.TOz pe) (W1.keep e1 (fun o e => up _ o D.i1z e) fun o e => up _ o D.l1z e) (W2.keep e2 (fun o e => up _ o D.i2z e) fun o e => up _ o D.l2z e) pk nk fun c o c1 c2 c3 c4 e => up c o c1 (kp c o c1 c2 c3 c4 e)
/-- one of them has no more -/
theorem zm_stop {Q : PySem.Fin → Shared → Prop} (hh : A.handled = none) (D : ZipApart z ti tp j1 j2 l1 l2) (W1 : Wlk P w S1 j1 l1 xs) (W2 : Wlk P w S2 j2 l2 ys)
    (gz : IsZip s.heap z ti tp .none) (gi : IsPair s.heap ti (.ref j1) (.ref j2)) (gp : IsPair s.heap tp a b) (g1 : S1 s.heap k1) (g2 : S2 s.heap k2) (no : xs[k1]? = none ∨ ys[k2]? = none)
    (q : ∀ h' e, (∀ c o, c ≠ z → c ≠ tp → c ≠ j1 → c ≠ j2 → s.heap.get? c = some o → h'.get? c = some o) → (∃ o, h'.get? e = some o ∧ o.cls = .type "StopIteration") → E (.ref e) { s with heap := h' }) :
    wpAny (model P w) A (Builtin.«zip.__next__» ⟨[.ref z], []⟩) Q E s := by
  show wpAny _ _ (field (.ref z) 2 >>= _) _ _ _; refine wpAny_bind (wpAny_field gz rfl (x := .bool false) rfl ?_)
  show wpAny _ _ (field (.ref z) 3 >>= _) _ _ _; refine wpAny_bind (wpAny_field gz rfl (x := .ref ti) rfl ?_)
  refine wpAny_bind (wpAny_seqItems gi rfl ?_); show wpAny _ _ (Builtin.SmallTypes.ownedTupleIsFree (.ref z) >>= _) _ _ _
  refine wpAny_bind ?_; unfold Builtin.SmallTypes.ownedTupleIsFree; refine wpAny_bind (wpAny_field gz rfl (x := .none) rfl (wpAny_pure ?_))
  simp only [if_true]; refine wpAny_bind (wpAny_rule ?_); refine wpAny_bind (wpAny_field gz rfl (x := .ref tp) rfl ?_)
  refine wpAny_bind (wpAny_setField_rec gz (by simp) fun ha za sa => ?_)
  replace za : IsZip ha z ti tp .ellipsis := za
  refine wpAny_bind ?_; simp only [List.zipIdx_cons, List.forIn_cons, List.zipIdx_nil, List.forIn_nil]
  refine wpAny_bind (wpAny_bind (wpAny_onRaise ?_)); show wpAny _ _ (Builtin.SmallTypes.nextOf (.ref j1) >>= _) _ _ _
  have ga := W1.keep g1 (fun o e => sa.extBut _ _ D.i1z e) fun o e => sa.extBut _ _ D.l1z e
  cases hx : xs[k1]? with
  | none =>
    refine wpAny_bind (W1.stop hh ga hx fun hb e sb he => ?_)
    obtain ⟨oe, h1, h2⟩ := he
    have zb : IsZip hb z ti tp .ellipsis := sb _ _ D.i1z.symm za
    have ne : e ≠ z := fun q' => by subst q'; rw [zb] at h1; cases h1; simp at h2
    exact wpAny_setField_rec zb (by simp) fun hc _ sc => q hc e (fun c o c1 _ c3 _ k => sc.extBut _ _ c1 (sb _ _ c3 (sa.extBut _ _ c1 k))) ⟨oe, sc.extBut _ _ ne h1, h2⟩
  | some x =>
    have hy : ys[k2]? = none := no.resolve_left fun h => by rw [hx] at h; cases h
    refine wpAny_bind (W1.item ga hx fun hb b1 sb => wpAny_pure ?_)
    have pb : IsPair hb tp a b := sb.extBut _ _ D.TOi1 (sa.extBut _ _ D.TOz gp)
    refine wpAny_bind (wpAny_seqItems pb rfl ?_); refine wpAny_bind (wpAny_updateSeq_pair pb fun hc pc sc => ?_)
    refine wpAny_bind (wpAny_letGo (wpAny_pure ?_)); refine wpAny_bind (wpAny_bind (wpAny_onRaise ?_)); show wpAny _ _ (Builtin.SmallTypes.nextOf (.ref j2) >>= _) _ _ _
    refine wpAny_bind (W2.stop hh (W2.keep g2 (fun o e => sc.extBut _ _ D.TOi2.symm (sb.extBut _ _ D.i12.symm (sa.extBut _ _ D.i2z e))) fun o e => sc.extBut _ _ D.l2TO (sb.extBut _ _ D.l2i1 (sa.extBut _ _ D.l2z e))) hy fun hd e sd he => ?_)
    obtain ⟨oe, h1, h2⟩ := he
    have zd : IsZip hd z ti tp .ellipsis := sd _ _ D.i2z.symm (sc.extBut _ _ D.TOz.symm (sb.extBut _ _ D.i1z.symm za))
    have ne : e ≠ z := fun q' => by subst q'; rw [zd] at h1; cases h1; simp at h2
    exact wpAny_setField_rec zd (by simp) fun hf _ sf => q hf e (fun c o c1 c2 c3 c4 k => sf.extBut _ _ c1 (sd _ _ c4 (sc.extBut _ _ c2 (sb.extBut _ _ c3 (sa.extBut _ _ c1 k))))) ⟨oe, sf.extBut _ _ ne h1, h2⟩
theorem zm_next {x y : Value} {Q : Option Value → Shared → Prop} (D : ZipApart z ti tp j1 j2 l1 l2) (W1 : Wlk P w S1 j1 l1 xs) (W2 : Wlk P w S2 j2 l2 ys)
    (gz : IsZip s.heap z ti tp .none) (gi : IsPair s.heap ti (.ref j1) (.ref j2)) (gp : IsPair s.heap tp a b) (g1 : S1 s.heap k1) (g2 : S2 s.heap k2) (hx : xs[k1]? = some x) (hy : ys[k2]? = some y)
    (q : ∀ h', IsZip h' z ti tp (rawInt s.heap.objs.size) → IsPair h' tp x y → S1 h' (k1 + 1) → S2 h' (k2 + 1) → IsPair h' s.heap.objs.size x y → h'.objs.size = s.heap.objs.size + 1 →
      (∀ c o, c ≠ z → c ≠ tp → c ≠ j1 → c ≠ j2 → s.heap.get? c = some o → h'.get? c = some o) → Q (some (.ref s.heap.objs.size)) { s with heap := h' }) : wpAny (model P w) A (pyNext (.ref z)) Q E s := by
  have ht : s.TypeIs (.ref z) "zip" := ⟨_, gz, rfl⟩
  unfold pyNext
  refine wpAny_bind (wpAny_attempt (wpAny_callSpecial?_slot (name := Str.ofString "__next__") ht F.slot_zip_next (wpAny_call_entry F.slot_zip_next ht F.entry_zip_next ?_ (F.args_zip_next_1 _))))
  exact zm_item D W1 W2 gz gi gp g1 g2 hx hy fun h' a1 a2 a3 a4 a5 a6 a7 => wpAny_pure (q h' a1 a2 a3 a4 a5 a6 a7)
theorem zm_end {Q : Option Value → Shared → Prop} (hh : A.handled = none) (D : ZipApart z ti tp j1 j2 l1 l2) (W1 : Wlk P w S1 j1 l1 xs) (W2 : Wlk P w S2 j2 l2 ys)
    (gz : IsZip s.heap z ti tp .none) (gi : IsPair s.heap ti (.ref j1) (.ref j2)) (gp : IsPair s.heap tp a b) (g1 : S1 s.heap k1) (g2 : S2 s.heap k2) (no : xs[k1]? = none ∨ ys[k2]? = none)
    (q : ∀ h', (∀ c o, c ≠ z → c ≠ tp → c ≠ j1 → c ≠ j2 → s.heap.get? c = some o → h'.get? c = some o) → Q none { s with heap := h' }) : wpAny (model P w) A (pyNext (.ref z)) Q E s := by
  have ht : s.TypeIs (.ref z) "zip" := ⟨_, gz, rfl⟩
  unfold pyNext
  refine wpAny_bind (wpAny_attempt (wpAny_callSpecial?_slot (name := Str.ofString "__next__") ht F.slot_zip_next (wpAny_call_entry F.slot_zip_next ht F.entry_zip_next ?_ (F.args_zip_next_1 _))))
  refine zm_stop hh D W1 W2 gz gi gp g1 g2 no fun h' e hk he => ?_
  obtain ⟨o, ho, hc⟩ := he
  exact wpAny_bind (wpAny_isInstance (b := true) (T := "StopIteration") ⟨o, ho, hc⟩ isSubtype_stop (wpAny_pure (q _ hk)))
end
abbrev zmH1 (h : Heap) (l1 : Addr) : Heap := h.push { data := .fields #[.ref l1, .int 0 0], cls := .type "list_iterator" }
abbrev zmH2 (h : Heap) (l1 l2 : Addr) : Heap := (zmH1 h l1).push { data := .fields #[.ref l2, .int 0 0], cls := .type "tuple_iterator" }
abbrev zmH3 (h : Heap) (l1 l2 : Addr) : Heap := (zmH2 h l1 l2).push { data := .seq #[.ref h.objs.size, .ref (zmH1 h l1).objs.size], cls := .type "tuple" }
abbrev zmH4 (h : Heap) (l1 l2 : Addr) : Heap := (zmH3 h l1 l2).push { data := .seq #[.none, .none], cls := .type "tuple" }
abbrev zmH5 (h : Heap) (l1 l2 : Addr) : Heap := (zmH4 h l1 l2).push { data := .fields #[.none, .bool false, .bool false, .ref (zmH2 h l1 l2).objs.size, .ref (zmH3 h l1 l2).objs.size], cls := .type "zip" }
theorem meets_zm (l1 l2 : Addr) (xs ys : Array Value) :
    Meets (Builtin.«zip.__new__» ⟨[.type "zip", .ref l1, .ref l2], []⟩) (fun _ R s => s.heap.IsList l1 xs ∧ s.heap.IsTuple l2 ys ∧ R (.ok (.ret (.ref (zmH4 s.heap l1 l2).objs.size))) { s with heap := zmH5 s.heap l1 l2 }) :=
  .of_wp fun prog w A R s ⟨q1, q2, q⟩ => by
    obtain ⟨hq, g, d, tk, os⟩ := s
    have hsub := sub_zip
    have e1 : Heap.IsList (Shared.heap ⟨hq, g, d, tk, os⟩) l1 xs := q1
    have e2 : Heap.IsTuple (Shared.heap ⟨hq.push { cls := .type "list_iterator", data := .fields #[.ref l1, .int 0 0] }, g, d, tk, os⟩) l2 ys := Heap.IsTuple.push q2 _
    wp_walk using wpAny_pyIter_list e1, wpAny_pyIter_tuple e2
    exact ⟨_, rfl, q⟩
theorem call_zm {P : Program} {w : World} {A : Around} {E : Value → Shared → Prop} {s : Shared} {l1 l2 : Addr} {xs ys : Array Value} {Q : Value → Shared → Prop} (q1 : s.heap.IsList l1 xs) (q2 : s.heap.IsTuple l2 ys)
    (q : ∀ h', IsZip h' (s.heap.objs.size + 4) (s.heap.objs.size + 2) (s.heap.objs.size + 3) .none → IsPair h' (s.heap.objs.size + 2) (.ref s.heap.objs.size) (.ref (s.heap.objs.size + 1)) → IsPair h' (s.heap.objs.size + 3) .none .none →
      h'.IsListIter s.heap.objs.size l1 0 → h'.IsTupleIter (s.heap.objs.size + 1) l2 0 → (∀ c o, s.heap.get? c = some o → h'.get? c = some o) → Q (.ref (s.heap.objs.size + 4)) { s with heap := h' }) :
    wpAny (model P w) A (call (.type "zip") [.ref l1, .ref l2]) Q E s := by
  refine callType_new F.called_zip (by decide) (F.typeCall_zip_2 _ _) (F.newCall_zip_2 _ _) (fun obj => F.args_object_init_3 obj _ _) F.entry_zip_new (meets_zm l1 l2 xs ys) ⟨q1, q2, ?_⟩
  have n1 : (zmH1 s.heap l1).objs.size = s.heap.objs.size + 1 := Heap.size_push ..
  have n2 : (zmH2 s.heap l1 l2).objs.size = s.heap.objs.size + 2 := by rw [Heap.size_push, n1]
  have n3 : (zmH3 s.heap l1 l2).objs.size = s.heap.objs.size + 3 := by rw [Heap.size_push, n2]
  have n4 : (zmH4 s.heap l1 l2).objs.size = s.heap.objs.size + 4 := by rw [Heap.size_push, n3]
  have up : ∀ {h : Heap} {c : Addr} {o o2 : Obj}, h.get? c = some o → (h.push o2).get? c = some o := fun e => Heap.get?_push_of_some _ e
  have f5 : (zmH5 s.heap l1 l2).get? (zmH4 s.heap l1 l2).objs.size = some _ := Heap.get?_push_size _ rfl
  have f4 : (zmH5 s.heap l1 l2).get? (zmH3 s.heap l1 l2).objs.size = some _ := up (Heap.get?_push_size _ rfl)
  have f3 : (zmH5 s.heap l1 l2).get? (zmH2 s.heap l1 l2).objs.size = some _ := up (up (Heap.get?_push_size _ rfl))
  have f2 : (zmH5 s.heap l1 l2).get? (zmH1 s.heap l1).objs.size = some _ := up (up (up (Heap.get?_push_size _ rfl)))
  have f1 : (zmH5 s.heap l1 l2).get? s.heap.objs.size = some _ := up (up (up (up (Heap.get?_push_size _ rfl))))
  show _ ∧ _
  rw [n2, n3, n4] at f5
  rw [n1, n2] at f3
  rw [n3] at f4
  rw [n1] at f2
  rw [n4]
  exact ⟨⟨_, f5, rfl⟩, q _ f5 f3 f4 ⟨_, f1, rfl, rfl⟩ ⟨_, f2, rfl, rfl⟩ fun c o e => up (up (up (up (up e))))⟩
def ItzM (K : PySem.W.Frag) (a b : Addr) : It :=
  ⟨fun i H => ∃ (xs ys : List V) (x y : V), SqL K H a xs ∧ SqT K H b ys ∧ xs[i]? = some x ∧ ys[i]? = some y,
    fun i H v H' => ∃ T x y, v = .ref T ∧ H T = none ∧ H' = upd H T (.tup [x, y]) ∧ (∀ xs, SqL K H a xs → xs[i]? = some x) ∧ ∀ ys, SqT K H b ys → ys[i]? = some y,
    fun i H => ∃ xs ys : List V, SqL K H a xs ∧ SqT K H b ys ∧ (xs.length ≤ i ∨ ys.length ≤ i)⟩
theorem in5 {c z ti tp j1 j2 : Addr} (h : c ∈ [z, ti, tp, j1, j2]) : c = z ∨ c = ti ∨ c = tp ∨ c = j1 ∨ c = j2 := by simpa using h
theorem turn_zm {P : Program} {w : World} {K : PySem.W.Frag} {elts : List Expr} {kk : Nat} {tpos : Pos} {a b z ti tp j1 j2 : Addr} (D : ZipApart z ti tp j1 j2 a b) :
    L2.Turn P w K (.Tuple elts kk tpos) (ItzM K a b) [z, ti, tp, j1, j2] z (fun i h => IsZip h z ti tp .none ∧ IsPair h ti (.ref j1) (.ref j2) ∧ (∃ x y, IsPair h tp x y) ∧ h.IsListIter j1 a i ∧ h.IsTupleIter j2 b i) where
  mem := List.mem_cons_self
  obj := fun i h ⟨gz, gi, ⟨x, y, gp⟩, ⟨o1, e1, _, d1⟩, o2, e2, _, d2⟩ c hc => by
    rcases in5 hc with q | q | q | q | q <;> rw [q]
    · exact ⟨_, gz, fun v q => nomatch q⟩
    · exact ⟨_, gi, fun v q => nomatch q⟩
    · exact ⟨_, gp, fun v q => nomatch q⟩
    · exact ⟨o1, e1, fun v q => by rw [d1] at q; cases q⟩
    · exact ⟨o2, e2, fun v q => by rw [d2] at q; cases q⟩
  keep := fun i h h' ⟨gz, gi, ⟨x, y, gp⟩, e1, e2⟩ k => ⟨k z (by simp) _ gz, k ti (by simp) _ gi, ⟨x, y, k tp (by simp) _ gp⟩, e1.at fun o q => k j1 (by simp) o q, e2.at fun o q => k j2 (by simp) o q⟩
  item := by
    rintro X rfl rfl rfl hcalm i pins s σ H E I hf ⟨gz, gi, ⟨x0, y0, gp⟩, e1, e2⟩ ⟨xs, ys, x, y, qx, qy, hx, hy⟩
    obtain ⟨is1, r1, p1, _⟩ := I.list qx
    obtain ⟨is2, r2, p2, _⟩ := I.tuple qy
    obtain ⟨u, hu, ru⟩ := r1.get hx
    obtain ⟨v, hv, rv⟩ := r2.get hy
    have lz : z < s.heap.objs.size := Heap.lt_size gz
    refine zm_next D (wlk_l (xs := is1.toArray) D.l1i1) (wlk_t (xs := is2.toArray) D.l2i2) gz gi gp ⟨e1, p1.isList⟩ ⟨e2, p2⟩ (x := u) (y := v) (by simpa using hu) (by simpa using hv) fun h' za pa f1 f2 pT nT kp => ?_
    refine ⟨_, rfl, wpAny_letOwnedTupleGo_zip (s := { s with heap := h' }) za fun h2 z2 sb => ?_⟩
    have pT2 : h2.get? s.heap.objs.size = some { data := .seq #[u, v], cls := .type "tuple" } := (sb.2 _ (Nat.ne_of_gt lz)).trans pT
    have new : ObjOk X.prog X.w (upd H s.heap.objs.size (.tup [x, y])) h2 s.heap.objs.size (.tup [x, y]) := ⟨by show 2 ≤ sizeLine; decide, [u, v], .cons ru (.cons rv .nil), ⟨_, pT2, rfl, _, rfl⟩⟩
    have kept : ∀ c o, c ∉ [z, ti, tp, j1, j2] → s.heap.get? c = some o → h2.get? c = some o := fun c o hb q => (sb.2 c fun e => hb (by simp [e])).trans (kp c o (fun e => hb (by simp [e])) (fun e => hb (by simp [e])) (fun e => hb (by simp [e])) (fun e => hb (by simp [e])) q)
    have I1 := I.turnedNew (t' := s.toks) (ch := [z, ti, tp, j1, j2]) kept hf (Nat.le_refl _) new
    refine ⟨.ref s.heap.objs.size, _, I1, rfl, ⟨_, x, y, rfl, I.hok.fresh (Nat.le_refl _), rfl, fun l hl => by rw [I.list_inj hl qx]; exact hx, fun l hl => by rw [I.tuple_inj hl qy]; exact hy⟩, ⟨z2, ?_, ⟨u, v, (sb.2 _ D.TOz).trans pa⟩, f1.1.at fun o q => (sb.2 _ D.i1z).trans q, f2.1.at fun o q => (sb.2 _ D.i2z).trans q⟩, fun c hc => ?_⟩
    · exact (sb.2 _ D.TIz).trans (kp _ _ D.TIz D.TITO D.TIi1 D.TIi2 gi)
    · have lc : c < s.heap.objs.size := by
        rcases in5 hc with q | q | q | q | q <;> rw [q]
        · exact lz
        · exact Heap.lt_size gi
        · exact Heap.lt_size gp
        · exact Heap.lt_size e1.choose_spec.1
        · exact Heap.lt_size e2.choose_spec.1
      rw [upd_ne (Nat.ne_of_lt lc)]
      exact (hf c hc).1
  done := by
    rintro X rfl rfl rfl hcalm i pins s σ H E I hf ⟨gz, gi, ⟨x0, y0, gp⟩, e1, e2⟩ ⟨xs, ys, qx, qy, no⟩
    obtain ⟨is1, r1, p1, _⟩ := I.list qx
    obtain ⟨is2, r2, p2, _⟩ := I.tuple qy
    have n1 := r1.length
    have n2 := r2.length
    have no' : is1.toArray[i]? = none ∨ is2.toArray[i]? = none := no.imp (fun q => by simp; omega) fun q => by simp; omega
    refine zm_end (I.ok.hd hcalm) D (wlk_l (xs := is1.toArray) D.l1i1) (wlk_t (xs := is2.toArray) D.l2i2) gz gi gp ⟨e1, p1.isList⟩ ⟨e2, p2⟩ no' fun h' kp => ⟨rfl, I.turnedL (t' := s.toks) (ch := [z, ti, tp, j1, j2]) (fun c o hb q => ?_) hf⟩
    exact kp c o (fun e => hb (by simp [e])) (fun e => hb (by simp [e])) (fun e => hb (by simp [e])) (fun e => hb (by simp [e])) q
  self := fun A i s Q E gs h => wpAny_pyIter_zip gs.1 h
/-- zip of two lists, of two tuples, of a list and a tuple -/
def iZip3 (K : PySem.W.Frag) (ta : TA) : TI := fun σ H R => ta σ H fun vs H1 => ∃ a b xs ys, vs = [.ref a, .ref b] ∧ ((SqL K H1 a xs ∧ SqL K H1 b ys ∧ R (Itz K a b) H1) ∨ (SqT K H1 a xs ∧ SqT K H1 b ys ∧ R (RZ.ItzT K a b) H1) ∨ SqL K H1 a xs ∧ SqT K H1 b ys ∧ R (ItzM K a b) H1)
theorem pi_zip3 {X : Cx} {u u2 : Expr} {ta : TA} {p pos tpos : Pos} {elts : List Expr} {kk : Nat} (hg : Gl X "zip") (hm : X.mg "zip" = none) (ha : PA X [u, u2] ta)
    (hs : starEach [u, u2] X.env = (false, eval u X.env) :: starEach [u2] X.env := by rfl) (hpl : (backTo pos (starEach [u2] X.env)).any (·.1) = false := by rfl) :
    PI X (.Tuple elts kk tpos) (.Call (.Name "zip" p) [u, u2] [] pos) (iZip3 X.K ta) := by
  refine ⟨fun pins s σ H R I h => Call_ (ld_blt I hg hm PyProof.Rows.boot_zip (PyProof.Rows.callWith_type1 (thn (ha.run pos pins s σ H _ I h) fun us s1 ⟨vs, H1, I1, r1, q⟩ => ?_) hs hpl))⟩
  obtain ⟨a, b, xs, ys, rfl, q⟩ := q
  cases r1 with
  | cons ra rr =>
    cases rr with
    | cons rb rr =>
      cases rr
      cases ra
      cases rb
      let n := s1.heap.objs.size
      have fr : ∀ c, c ∈ [n + 4, n + 2, n + 3, n, n + 1] → FpOk X pins H1 c := fun c hc => by
        have le : n ≤ c := by
          rcases in5 hc with e | e | e | e | e <;> rw [e] <;> first | exact Nat.le_refl _ | exact Nat.le_add_right _ _
        exact I1.fpOk le (I1.hok.fresh le)
      rcases q with ⟨qx, qy, q⟩ | ⟨qx, qy, q⟩ | ⟨qx, qy, q⟩
      · obtain ⟨is1, _, p1, _⟩ := I1.list qx
        obtain ⟨is2, _, p2, _⟩ := I1.list qy
        refine call_zip_2 p1.isList p2.isList fun h' gz gi gp g1 g2 _ hk => wpAny_pyIter_zip gz ⟨n + 4, [n + 4, n + 2, n + 3, n, n + 1], _, _, H1, rfl, I1.kept (t' := s1.toks) hk, turn_zip (PySem.W.ktu_apart n a b p1.lt p2.lt), ⟨gz, gi, ⟨_, _, gp⟩, g1, g2⟩, fr, q⟩
      · obtain ⟨is1, _, p1, _⟩ := I1.tuple qx
        obtain ⟨is2, _, p2, _⟩ := I1.tuple qy
        refine RZ.call_zipT (show s1.heap.IsTuple a is1.toArray from p1) (show s1.heap.IsTuple b is2.toArray from p2) fun h' gz gi gp g1 g2 _ hk => wpAny_pyIter_zip gz ⟨n + 4, [n + 4, n + 2, n + 3, n, n + 1], _, _, H1, rfl, I1.kept (t' := s1.toks) hk, RZ.turn_zipT (PySem.W.ktu_apart n a b (Heap.lt_size p1.choose_spec.1) (Heap.lt_size p2.choose_spec.1)), ⟨gz, gi, ⟨_, _, gp⟩, g1, g2⟩, fr, q⟩
      · obtain ⟨is1, _, p1, _⟩ := I1.list qx
        obtain ⟨is2, _, p2, _⟩ := I1.tuple qy
        refine call_zm p1.isList (show s1.heap.IsTuple b is2.toArray from p2) fun h' gz gi gp g1 g2 hk => wpAny_pyIter_zip gz ⟨n + 4, [n + 4, n + 2, n + 3, n, n + 1], _, _, H1, rfl, I1.kept (t' := s1.toks) hk, turn_zm (PySem.W.ktu_apart n a b p1.lt (Heap.lt_size p2.choose_spec.1)), ⟨gz, gi, ⟨_, _, gp⟩, g1, g2⟩, fr, q⟩
end Da
namespace Da
open PySem PySem.Spec L2
section
variable {α β γ : Type} {e : α → D} {f : β → D} {ρ : Env} {fa fb : Env → Res D}
theorem op_mul {i j : Int} : Rf (dMul (.int i) (.int j)) (mulR i j) D.int := by
  unfold mulR
  split
  · rename_i h; exact dMul_int h
  · trivial
theorem op_div {i j : Int} : Rf (dDiv (.int i) (.int j)) (divR i j) D.int := by
  unfold divR
  split
  · rename_i h
    show (if divOk i j = true then Res.ok (D.int (i.fdiv j)) else .er) = _
    rw [if_pos (show divOk i j = true from stuck_iff.mpr ⟨by omega, h.2⟩), Int.fdiv_eq_ediv_of_nonneg i (by omega)]
  · split
    · rename_i h
      show (if divOk i j = true then Res.ok (D.int (i.fdiv j)) else .er) = _
      have hf : i.fdiv j = -i / -j := by
        have h1 : i.fdiv j = (-i).fdiv (-j) := (Int.neg_fdiv_neg i j).symm
        rw [h1, Int.fdiv_eq_ediv_of_nonneg _ (by omega)]
      rw [if_pos (show divOk i j = true from stuck_iff.mpr ⟨by omega, h.2⟩), hf]
    · trivial
theorem op_mod {i j : Int} : Rf (dMod (.int i) (.int j)) (modR i j) D.int := by
  unfold modR
  split
  · rename_i h; exact dMod_pos h
  · trivial
theorem op_divp {i j : Int} (h : 0 < j) (h9 : j < 18446744073709551616) : dDiv (.int i) (.int j) = .ok (.int (i / j)) := dDiv_64 h h9
theorem op_modp {i j : Int} (h : 0 < j) : dMod (.int i) (.int j) = .ok (.int (i % j)) := dMod_pos h
theorem op_pow {i j : Int} : Rf (dPow (.int i) (.int j)) (powR i j) D.int := by
  unfold powR
  split
  · rename_i h; exact if_pos h
  · trivial
theorem atI_mapN {xs : List α} {i : Int} : atI (xs.map e) i = (atI xs i).map e := by
  unfold atI ixN
  rw [List.length_map]
  split <;> (try split) <;> simp
theorem op_ixL {xs : List α} {i : Int} : Rf (dIx (eL e xs) (.int i)) (ixR xs i) e := by
  unfold ixR
  cases h : atI xs i with
  | some x => exact dIx_lst (by rw [atI_mapN, h]; rfl)
  | none => trivial
theorem op_ixT {xs : List α} {i : Int} : Rf (dIx (eT e xs) (.int i)) (ixR xs i) e := by
  unfold ixR
  cases h : atI xs i with
  | some x => exact dIx_tup (by rw [atI_mapN, h]; rfl)
  | none => trivial
theorem op_ixF {xs : List α} {i : Int} : Rf (dIx (eF e xs) (.int i)) (ixR xs i) e := by
  unfold ixR
  cases h : atI xs i with
  | some x => exact dIx_frl (by rw [atI_mapN, h]; rfl)
  | none => trivial
theorem op_catLL {xs ys : List α} : Rf (dAddL (eL e xs) (eL e ys)) (catR xs ys) (eL e) := by
  unfold catR
  split
  · rename_i h
    show (if szOk ((xs.map e).length + (ys.map e).length) = true then Res.ok (D.lst (xs.map e ++ ys.map e)) else .er) = Res.ok (D.lst ((xs ++ ys).map e))
    rw [List.length_map, List.length_map, h, List.map_append]; rfl
  · trivial
theorem op_rep {xs : List α} {k : Int} : Rf (dRep (eL e xs) (.int k)) (repR xs k) (eL e) := by
  unfold repR
  split
  · rename_i h
    show (if repOk (xs.map e).length k = true then Res.ok (D.lst (List.replicate k.toNat (xs.map e)).flatten) else .er) = Res.ok (D.lst (((List.replicate k.toNat xs).flatten).map e))
    rw [List.length_map, h, List.map_flatten, List.map_replicate]; rfl
  · trivial
theorem op_lenL {xs : List α} : dLen (eL e xs) = .ok (.int xs.length) := by show Res.ok (D.int (xs.map e).length) = _; rw [List.length_map]
theorem op_lenT {xs : List α} : dLen (eT e xs) = .ok (.int xs.length) := by show Res.ok (D.int (xs.map e).length) = _; rw [List.length_map]
theorem op_lenF {xs : List α} : dLen (eF e xs) = .ok (.int xs.length) := by show Res.ok (D.int (xs.map e).length) = _; rw [List.length_map]
theorem op_sumL {xs : List Int} : dSum (eL D.int xs) = .ok (.int xs.sum) := by show (match intsD (xs.map D.int) with | some ns => Res.ok (D.int ns.sum) | none => .er) = _; rw [intsD_map]
theorem op_allL {xs : List Bool} : dAll (eL D.bl xs) = .ok (.bl (xs.all id)) := by show (match boolsD (xs.map D.bl) with | some ns => Res.ok (D.bl (ns.all id)) | none => .er) = _; rw [boolsD_map]
theorem rf_chk {n : Nat} {m : List D → Res D} {ds : List D} {r : Res α} (h : Rf (m ds) r e) (hl : ds.length = n) : Rf (chk n m ds) r e := by
  unfold chk; rw [if_pos hl]; exact h
theorem ev_chk {n : Nat} {m : List D → Res D} {ds : List D} {d : D} (h : m ds = .ok d) (hl : ds.length = n) : chk n m ds = .ok d := by
  unfold chk; rw [if_pos hl]; exact h
theorem it_L {xs : List α} (h : fa ρ = .ok (eL e xs)) : fL fa ρ = .ok (xs.map e) := evL h rfl
theorem it_T {xs : List α} (h : fa ρ = .ok (eT e xs)) : fL fa ρ = .ok (xs.map e) := evL h rfl
theorem it_F {xs : List α} (h : fa ρ = .ok (eF e xs)) : fL fa ρ = .ok (xs.map e) := evL h rfl
theorem rng_mapI {lo : Int} {n : Nat} : rng lo n = (rngI lo n).map D.int := by unfold rng rngI; rw [List.map_map]; rfl
theorem it_R1 {fs : Env → Res (List D)} {j : Int} (h : fs ρ = .ok [.int j]) : Rf (fR1 fs ρ) (rngR j) (fun xs => xs.map D.int) := by
  unfold fR1
  rw [h]
  show Rf (if rngOk 0 j = true then Res.ok (rng 0 j.toNat) else .er) _ _
  unfold rngR
  split
  · rw [rng_mapI]; rfl
  · trivial
theorem it_R2 {fs : Env → Res (List D)} {i j : Int} (h : fs ρ = .ok [.int i, .int j]) : Rf (fR2 fs ρ) (rng2R i j) (fun xs => xs.map D.int) := by
  unfold fR2
  rw [h]
  show Rf (if rngOk i j = true then Res.ok (rng i (j - i).toNat) else .er) _ _
  unfold rng2R
  split
  · rw [rng_mapI]; rfl
  · trivial
theorem enum_map : ∀ {xs : List α} {i : Nat}, enumD i (xs.map e) = (enumI i xs).map (eP2 D.int e)
  | [], _ => rfl
  | x :: xs, i => by
    show D.tup [.int (i : Int), e x] :: enumD (i + 1) (xs.map e) = _
    rw [enum_map]
    rfl
theorem it_enT {xs : List α} (h : fa ρ = .ok (eT e xs)) : fEnum (fA fa fA0) ρ = .ok ((enumI 0 xs).map (eP2 D.int e)) := by
  unfold fEnum
  rw [evA h rfl, ← enum_map]
  rfl
theorem zip_map : ∀ {xs : List α} {ys : List β}, zipD (xs.map e) (ys.map f) = (xs.zip ys).map (eP2 e f)
  | [], ys => by simp [zipD]
  | x :: xs, [] => by simp [zipD]
  | x :: xs, y :: ys => by
    show D.tup [e x, f y] :: zipD (xs.map e) (ys.map f) = _
    rw [zip_map]
    rfl
end
section
variable {α β γ α' : Type} {ex : α → D} {e : β → D} {vs vs1 : List Nat} {it it1 : Env → Res (List D)} {g g1 : D → Env → Res Env} {c c1 : Env → Res Bool} {f : Env → Res D} {ρ : Env}
theorem lcGo_rf {rc : α → Res Bool} {rf : α → Res β} {E1 : α → Env} (hg : ∀ x, g (ex x) ρ = .ok (E1 x)) (hc : ∀ x, Rf (c (E1 x)) (rc x) (fun b => b)) (hf : ∀ x, Rf (f (E1 x)) (rf x) e) : ∀ xs : List α, match lcR.go rc rf xs with
    | .ok ys => lcGo g c f ρ (xs.map ex) = .ok (ys.map e)
    | .ex _ _ => False
    | .er => True
  | [] => rfl
  | x :: xs => by
    have ih := lcGo_rf hg hc hf xs
    unfold lcR.go
    rw [List.map_cons]
    unfold lcGo
    rw [hg]
    have h1 := hc x
    have h2 := hf x
    cases q : rc x with
    | ok b =>
      rw [q] at h1
      have h1 : c (E1 x) = .ok b := h1
      dsimp only
      rw [h1]
      cases b with
      | true =>
        cases q2 : rf x with
        | ok y =>
          rw [q2] at h2
          have h2 : f (E1 x) = .ok (e y) := h2
          dsimp only
          rw [h2]
          cases q3 : lcR.go rc rf xs with
          | ok ys => rw [q3] at ih; dsimp only at ih ⊢; rw [ih]; rfl
          | ex _ _ => rw [q3] at ih; exact ih.elim
          | er => exact trivial
        | ex _ _ => exact trivial
        | er => exact trivial
      | false => exact ih
    | ex _ _ => exact trivial
    | er => exact trivial
theorem rf_lcp {rc : α → Res Bool} {rf : α → Res β} {xs : List α} (hi : it ρ = .ok (xs.map ex)) (E1 : α → Env) (hg : ∀ x, g (ex x) (wipeD ρ vs) = .ok (E1 x)) (hc : ∀ x, Rf (c (E1 x)) (rc x) (fun b => b)) (hf : ∀ x, Rf (f (E1 x)) (rf x) e) : Rf (fLc vs it g c f ρ) (lcR xs rc rf) (eL e) := by
  unfold fLc lcR
  rw [hi]
  show Rf (if szOk (xs.map ex).length = true then asLst (lcGo g c f (wipeD ρ vs) (xs.map ex)) else .er) _ _
  rw [List.length_map]
  split
  · have := lcGo_rf hg hc hf xs
    cases q : lcR.go rc rf xs with
    | ok ys => rw [q] at this; dsimp only at this; rw [this]; exact rfl
    | ex _ _ => rw [q] at this; exact this.elim
    | er => exact trivial
  · exact trivial
theorem rf_lc {rc : α → Res Bool} {rf : α → Res β} {rxs : Res (List α)} (hi : Rf (it ρ) rxs (fun xs => xs.map ex)) (E1 : α → Env) (hg : ∀ x, g (ex x) (wipeD ρ vs) = .ok (E1 x)) (hc : ∀ x, Rf (c (E1 x)) (rc x) (fun b => b)) (hf : ∀ x, Rf (f (E1 x)) (rf x) e) : Rf (fLc vs it g c f ρ) (rxs.bind fun xs => lcR xs rc rf) (eL e) := by
  cases rxs with
  | ok xs => exact rf_lcp hi E1 hg hc hf
  | ex cn fs =>
    show fLc vs it g c f ρ = _
    unfold fLc
    rw [show it ρ = _ from hi]
    rfl
  | er => exact trivial
theorem rf_lcN2 {e1 : α → D} {e2 : β → D} {r1 : Res α} {r2 : Res β} {d1 d2 : D} {ρ1 ρ2 : Env} (hi : it ρ = .ok [d1, d2]) (hg1 : g d1 (wipeD ρ vs) = .ok ρ1) (hg2 : g d2 (wipeD ρ vs) = .ok ρ2) (hf1 : Rf (f ρ1) r1 e1) (hf2 : Rf (f ρ2) r2 e2) : Rf (fLc vs it g fYes f ρ) ((nx r1).bind fun x => (nx r2).bind fun y => .ok (x, y)) (eH2 e1 e2) := by
  unfold fLc
  rw [hi]
  show Rf (if szOk 2 = true then asLst (lcGo g fYes f (wipeD ρ vs) [d1, d2]) else .er) _ _
  rw [if_pos (szOk_yes (by decide))]
  cases r1 with
  | ok y =>
    cases r2 with
    | ok z => simp only [lcGo, hg1, hg2, fYes, show f ρ1 = _ from hf1, show f ρ2 = _ from hf2, if_true]; exact rfl
    | _ => exact trivial
  | _ => exact trivial
end
section
variable {α β γ δ σ : Type} {ex : α → D} {e : β → D} {vs : List Nat} {it : Env → Res (List D)} {g : D → Env → Res Env} {F G : FS} {ρ : Env} {K : Res Fl → Res δ} {o : γ → δ}
def ctlO {σ β : Type} (E : σ → Env) (e : β → D) : Ctl σ β → Fl
  | .go s => .nx (E s)
  | .out s => .bk (E s)
  | .ret v => .rt (e v)
def LoopC {σ β : Type} (E : σ → Env) (e : β → D) (m : Res Fl) (r : Res (Ctl σ β)) : Prop := match r with
  | .ok (.go s') => m = .ok (.nx (E s'))
  | .ok (.out _) => False
  | .ok (.ret v) => m = .ok (.rt (e v))
  | .ex c fs => ∃ ρ, m = .ok (.xc c fs ρ)
  | .er => True
def LoopR {σ : Type} (E : σ → Env) (m : Res Fl) (r : Res σ) : Prop := match r with
  | .ok s' => m = .ok (.nx (E s'))
  | .ex c fs => ∃ ρ, m = .ok (.xc c fs ρ)
  | .er => True
theorem finL_nx {vs : List Nat} {m : Res Fl} {ρ : Env} (h : finL vs m = .ok (.nx ρ)) : fgt vs m = .ok (.nx ρ) ∨ fgt vs m = .ok (.ct ρ) := by
  unfold finL at h
  split at h <;> cases h
  · exact .inl rfl
  · exact .inr rfl
theorem finL_bk {vs : List Nat} {m : Res Fl} {ρ : Env} (h : finL vs m = .ok (.bk ρ)) : fgt vs m = .ok (.bk ρ) := by
  unfold finL at h
  split at h <;> cases h
  rfl
theorem finL_rt {vs : List Nat} {m : Res Fl} {d : D} (h : finL vs m = .ok (.rt d)) : fgt vs m = .ok (.rt d) := by
  unfold finL at h
  split at h <;> cases h
  rfl
theorem finL_ex {vs : List Nat} {m : Res Fl} {c : Str} {fs : List (Str × D)} (h : finL vs m = .ex c fs) : ∃ ρ, fgt vs m = .ok (.xc c fs ρ) := by
  unfold finL at h
  split at h <;> cases h
  exact ⟨_, rfl⟩
theorem finL_end {vs : List Nat} {N : Res γ} {o : γ → Fl} (h : Rf (finL vs (fSeq F fNext ρ)) N o) : Rf (finL vs (F ρ)) N o := t_end h
theorem forGo_C {E : σ → Env} {E1 : σ → α → Env} {f : σ → α → Res (Ctl σ β)} (hg : ∀ s x, g (ex x) (E s) = .ok (E1 s x)) (hb : ∀ s x, Rf (finL vs (fSeq F fNext (E1 s x))) (f s x) (ctlO E e)) : ∀ (xs : List α) (s : σ), LoopC E e (forGo g (fFgt vs F) (xs.map ex) (E s)) (forC f xs s)
  | [], s => rfl
  | x :: xs, s => by
    unfold forC
    rw [List.map_cons]
    unfold forGo
    rw [hg]
    have h := finL_end (hb s x)
    cases q : f s x with
    | ok c =>
      rw [q] at h
      cases c with
      | go s' =>
        have ih := forGo_C hg hb xs s'
        rcases finL_nx h with h | h
        · dsimp only [Res.bind_ok, fFgt]
          rw [h]
          exact ih
        · dsimp only [Res.bind_ok, fFgt]
          rw [h]
          exact ih
      | out s' =>
        dsimp only [Res.bind_ok, fFgt]
        rw [finL_bk h]; exact rfl
      | ret v =>
        dsimp only [Res.bind_ok, fFgt]
        rw [finL_rt h]; exact rfl
    | ex c fs =>
      rw [q] at h
      obtain ⟨ρ1, h⟩ := finL_ex h
      dsimp only [Res.bind_ex, fFgt]
      rw [h]
      exact ⟨ρ1, rfl⟩
    | er => exact trivial
theorem forGo_R {E : σ → Env} {E1 : σ → α → Env} {f : σ → α → Res σ} (hg : ∀ s x, g (ex x) (E s) = .ok (E1 s x)) (hb : ∀ s x, Rf (finL vs (fSeq F fNext (E1 s x))) (f s x) (fun s => .nx (E s))) : ∀ (xs : List α) (s : σ), LoopR E (forGo g (fFgt vs F) (xs.map ex) (E s)) (forR f xs s)
  | [], s => rfl
  | x :: xs, s => by
    unfold forR
    rw [List.map_cons]
    unfold forGo
    rw [hg]
    have h := finL_end (hb s x)
    cases q : f s x with
    | ok s' =>
      rw [q] at h
      have ih := forGo_R hg hb xs s'
      rcases finL_nx h with h | h
      · dsimp only [Res.bind_ok, fFgt]
        rw [h]
        exact ih
      · dsimp only [Res.bind_ok, fFgt]
        rw [h]
        exact ih
    | ex c fs =>
      rw [q] at h
      obtain ⟨ρ1, h⟩ := finL_ex h
      dsimp only [Res.bind_ex, fFgt]
      rw [h]
      exact ⟨ρ1, rfl⟩
    | er => exact trivial
/-- a loop that neither breaks nor returns -/
theorem s_forp {f : σ → α → Res σ} {xs : List α} {s0 : σ} (hi : it ρ = .ok (xs.map ex)) (E : σ → Env) (E1 : σ → α → Env) (h0 : ρ = E s0) (hg : ∀ s x, g (ex x) (E s) = .ok (E1 s x)) (hb : ∀ s x, Rf (finL vs (fSeq F fNext (E1 s x))) (f s x) (fun s => .nx (E s))) : Rf (finS [] (fFor it g (fFgt vs F) ρ)) (forR f xs s0) (fun s => .nx (E s)) := by
  have h := forGo_R hg hb xs s0
  rw [fFor_ap hi]
  cases q : forR f xs s0 with
  | ok s' => rw [q] at h; have h : _ = _ := h; rw [h0, h]; exact rfl
  | ex c fs => rw [q] at h; obtain ⟨ρ1, h⟩ := h; rw [h0, h]; exact rfl
  | er => exact trivial
theorem s_for {f : σ → α → Res σ} {rxs : Res (List α)} {s0 : σ} (hi : Rf (it ρ) rxs (fun xs => xs.map ex)) (E : σ → Env) (E1 : σ → α → Env) (h0 : ρ = E s0) (hg : ∀ s x, g (ex x) (E s) = .ok (E1 s x)) (hb : ∀ s x, Rf (finL vs (fSeq F fNext (E1 s x))) (f s x) (fun s => .nx (E s))) : Rf (finS [] (fFor it g (fFgt vs F) ρ)) (rxs.bind fun xs => forR f xs s0) (fun s => .nx (E s)) := by
  cases rxs with
  | ok xs => exact s_forp hi E E1 h0 hg hb
  | ex c fs =>
    show finS [] (lift (it ρ) ρ _) = _
    rw [show it ρ = _ from hi]
    rfl
  | er => exact trivial
/-- a loop with breaks -/
theorem s_forBp {f : σ → α → Res (Ctl σ Unit)} {xs : List α} {s0 : σ} (hi : it ρ = .ok (xs.map ex)) (E : σ → Env) (E1 : σ → α → Env) (h0 : ρ = E s0) (hg : ∀ s x, g (ex x) (E s) = .ok (E1 s x)) (hb : ∀ s x, Rf (finL vs (fSeq F fNext (E1 s x))) (f s x) (ctlO E eN)) : Rf (finS [] (fFor it g (fFgt vs F) ρ)) ((forC f xs s0).bind ctlS) (fun s => .nx (E s)) := by
  have h := forGo_C hg hb xs s0
  rw [fFor_ap hi]
  cases q : forC f xs s0 with
  | ok c =>
    rw [q] at h
    cases c with
    | go s' => have h : _ = _ := h; rw [h0, h]; exact rfl
    | out s' => exact h.elim
    | ret v => exact trivial
  | ex c fs => rw [q] at h; obtain ⟨ρ1, h⟩ := h; rw [h0, h]; exact rfl
  | er => exact trivial
theorem s_forB {f : σ → α → Res (Ctl σ Unit)} {rxs : Res (List α)} {s0 : σ} (hi : Rf (it ρ) rxs (fun xs => xs.map ex)) (E : σ → Env) (E1 : σ → α → Env) (h0 : ρ = E s0) (hg : ∀ s x, g (ex x) (E s) = .ok (E1 s x)) (hb : ∀ s x, Rf (finL vs (fSeq F fNext (E1 s x))) (f s x) (ctlO E eN)) : Rf (finS [] (fFor it g (fFgt vs F) ρ)) (rxs.bind fun xs => (forC f xs s0).bind ctlS) (fun s => .nx (E s)) := by
  cases rxs with
  | ok xs => exact s_forBp hi E E1 h0 hg hb
  | ex c fs =>
    show finS [] (lift (it ρ) ρ _) = _
    rw [show it ρ = _ from hi]
    rfl
  | er => exact trivial
/-- a loop that may return -/
def ctlK {σ β γ : Type} (k : σ → Res γ) (rk : β → γ) (o : Ctl σ β) : Res γ := match o with
  | .go s => k s
  | .out s => k s
  | .ret v => .ok (rk v)
theorem t_forCp (hK : Fin K) {f : σ → α → Res (Ctl σ β)} {xs : List α} {s0 : σ} {k : σ → Res γ} {rk : β → γ} (hi : it ρ = .ok (xs.map ex)) (E : σ → Env) (E1 : σ → α → Env) (h0 : ρ = E s0) (hg : ∀ s x, g (ex x) (E s) = .ok (E1 s x)) (hb : ∀ s x, Rf (finL vs (fSeq F fNext (E1 s x))) (f s x) (ctlO E e))
    (hk : ∀ s, Rf (K (G (E s))) (k s) o) (hr : ∀ v, K (.ok (.rt (e v))) = .ok (o (rk v))) : Rf (K (fSeq (fFor it g (fFgt vs F)) G ρ)) ((forC f xs s0).bind (ctlK k rk)) o := by
  have h := forGo_C hg hb xs s0
  have e1 : fSeq (fFor it g (fFgt vs F)) G ρ = andThen (forGo g (fFgt vs F) (xs.map ex) (E s0)) G := by
    rw [fSeq_ap, fFor_ap hi, h0]
  rw [e1]
  cases q : forC f xs s0 with
  | ok c =>
    rw [q] at h
    cases c with
    | go s' => have h : _ = _ := h; rw [h]; exact hk s'
    | out s' => exact h.elim
    | ret v => have h : _ = _ := h; rw [h]; exact hr v
  | ex c fs => rw [q] at h; obtain ⟨ρ1, h⟩ := h; rw [h]; exact hK.xc _ _ _
  | er => exact trivial
theorem t_forC (hK : Fin K) {f : σ → α → Res (Ctl σ β)} {rxs : Res (List α)} {s0 : σ} {k : σ → Res γ} {rk : β → γ} (hi : Rf (it ρ) rxs (fun xs => xs.map ex)) (E : σ → Env) (E1 : σ → α → Env) (h0 : ρ = E s0) (hg : ∀ s x, g (ex x) (E s) = .ok (E1 s x)) (hb : ∀ s x, Rf (finL vs (fSeq F fNext (E1 s x))) (f s x) (ctlO E e))
    (hk : ∀ s, Rf (K (G (E s))) (k s) o) (hr : ∀ v, K (.ok (.rt (e v))) = .ok (o (rk v))) : Rf (K (fSeq (fFor it g (fFgt vs F)) G ρ)) (rxs.bind fun xs => (forC f xs s0).bind (ctlK k rk)) o := by
  cases rxs with
  | ok xs => exact t_forCp hK hi E E1 h0 hg hb hk hr
  | ex c fs =>
    have : fSeq (fFor it g (fFgt vs F)) G ρ = .ok (.xc c fs ρ) := by
      show andThen (lift (it ρ) ρ _) G = _
      rw [show it ρ = _ from hi]
      rfl
    rw [this]
    exact hK.xc _ _ _
  | er => exact trivial
end
end Da
namespace Da
open PySem PySem.Spec L2
section
variable {α β γ δ σ : Type} {K : Res Fl → Res δ} {F G : FS} {ρ : Env} {f fa fb fj : Env → Res D} {e : α → D} {i j : Nat} {r : Res α} {N : Res γ} {o : γ → δ} {fs : Env → Res (List D)} {c : Env → Res Bool} {g1 : D → Res D} {g2 : D → D → Res D}
theorem b_iB {m : Res D} {rb : Res Bool} (h : Rf m rb D.bl) : Rf (m.bind asB) rb (fun b => b) := by
  cases rb with
  | ok b => rw [show m = _ from h]; rfl
  | ex c fs => rw [show m = _ from h]; rfl
  | er => trivial
theorem b_iT {m : Res D} {rb : Res Bool} (h : Rf m rb D.bl) : Rf (m.bind trD) rb (fun b => b) := by
  cases rb with
  | ok b => rw [show m = _ from h]; rfl
  | ex c fs => rw [show m = _ from h]; rfl
  | er => trivial
theorem b_iL {m : Res D} {r : Res (List α)} {q : List α → D} (h : Rf m r q) (hq : ∀ xs, asL (q xs) = .ok (xs.map e)) : Rf (m.bind asL) r (fun xs => xs.map e) := by
  cases r with
  | ok b => rw [show m = _ from h]; exact hq b
  | ex c fs => rw [show m = _ from h]; rfl
  | er => trivial
theorem evChain {g g' : D → D → Res D} {fc : Env → Res D} {x y z : D} {a b : Bool} (ha : fa ρ = .ok x) (hb : fb ρ = .ok y) (hc : fc ρ = .ok z) (h1 : g x y = .ok (.bl a)) (h2 : g' y z = .ok (.bl b)) : fChain g g' fa fb fc ρ = .ok (.bl (a && b)) := by
  unfold fChain
  rw [ha]; show (fb ρ).bind _ = _
  rw [hb]; show (g x y).bind _ = _
  rw [h1]
  cases a with
  | true => show (fc ρ).bind _ = _; rw [hc]; exact h2
  | false => rfl
theorem it_row2 {d1 d2 : D} {t : D} (h : fa ρ = .ok t) (ht : asL t = .ok [d1, d2] := by rfl) : fL fa ρ = .ok [d1, d2] := evL h ht
theorem q_f1 (h : Rf ((fa ρ).bind g1) N o') : Rf (f1 g1 fa ρ) N o' := h
theorem q_f2 (h : Rf ((fa ρ).bind fun x => (fb ρ).bind fun y => g2 x y) N o') : Rf (f2 g2 fa fb ρ) N o' := h
theorem q_on {g : List D → Res D} (h : Rf ((fs ρ).bind g) N o') : Rf (fOn g fs ρ) N o' := h
theorem q_B {o' : γ → Bool} (h : Rf ((f ρ).bind asB) N o') : Rf (fB f ρ) N o' := h
theorem q_Tr {o' : γ → Bool} (h : Rf ((f ρ).bind trD) N o') : Rf (fTr f ρ) N o' := h
theorem q_Not {o' : γ → Bool} (h : Rf ((c ρ).bind fun c => .ok (!c)) N o') : Rf (fNot c ρ) N o' := h
theorem q_L {o' : γ → List D} (h : Rf ((f ρ).bind asL) N o') : Rf (fL f ρ) N o' := h
theorem q_R1 {o' : γ → List D} (h : Rf ((fs ρ).bind gRng1) N o') : Rf (fR1 fs ρ) N o' := h
theorem q_R2 {o' : γ → List D} (h : Rf ((fs ρ).bind gRng2) N o') : Rf (fR2 fs ρ) N o' := h
theorem q_Zip {o' : γ → List D} (h : Rf ((fs ρ).bind dZip) N o') : Rf (fZip fs ρ) N o' := h
theorem k_R1 {j : Int} : Rf (gRng1 [.int j]) (rngR j) (fun xs => xs.map D.int) := it_R1 (ρ := []) (fs := fun _ => .ok [.int j]) rfl
theorem k_R2 {i j : Int} : Rf (gRng2 [.int i, .int j]) (rng2R i j) (fun xs => xs.map D.int) := it_R2 (ρ := []) (fs := fun _ => .ok [.int i, .int j]) rfl
theorem k_zipT {f : β → D} {xs : List α} {ys : List β} : dZip [eT e xs, eT f ys] = .ok ((xs.zip ys).map (eP2 e f)) := by rw [← zip_map]; rfl
theorem set_p {d : D} {ρ' : Env} (hf : f ρ = .ok d) (h : ρ.set i (some d) = ρ') : fSet i f ρ = .ok (.nx ρ') := by
  show lift (f ρ) ρ _ = _
  rw [hf, ← h]
  rfl
theorem s_lift {α : Type} {m : Res α} {k : α → Res Fl} {d : α} {N : Res γ} {o : γ → Fl} (h : m = .ok d) (hk : Rf (finS [] (k d)) N o) : Rf (finS [] (lift m ρ k)) N o := by rw [h]; exact hk
theorem s_liftI {α τ : Type} {m : Res α} {k : α → Res Fl} {r : Res τ} {e : τ → α} {N : τ → Res γ} {o : γ → Fl} (h : Rf m r e) (hk : ∀ x, Rf (finS [] (k (e x))) (N x) o) : Rf (finS [] (lift m ρ k)) (r.bind N) o := by
  cases r with
  | ok v => rw [show m = _ from h]; exact hk v
  | ex c fs => rw [show m = _ from h]; exact rfl
  | er => exact trivial
theorem fApp_at {xs : List D} (h : ρ[i]? = some (some (.lst xs))) : fApp i f ρ = lift (f ρ) ρ fun d => if szOk (xs.length + 1) = true then .ok (.nx (ρ.set i (some (.lst (xs ++ [d]))))) else .er := by unfold fApp; rw [h]
theorem k_app {xs : List α} {d : α} (E : List α → Env) (hE : ∀ ys, ρ.set i (some (eL e ys)) = E ys) : Rf (finS [] (if szOk ((xs.map e).length + 1) = true then .ok (.nx (ρ.set i (some (.lst (xs.map e ++ [e d]))))) else .er)) (appR xs d) (fun ys => .nx (E ys)) := by
  unfold appR
  rw [List.length_map]
  split
  · show Res.ok (Fl.nx _) = Res.ok (Fl.nx _)
    rw [← hE, show eL e (xs ++ [d]) = .lst (xs.map e ++ [e d]) by unfold eL; rw [List.map_append]; rfl]
    rfl
  · trivial
theorem s_app {xs : List α} {d : α} (E : List α → Env) (h : ρ[i]? = some (some (eL e xs))) (hf : f ρ = .ok (e d)) (hE : ∀ ys, ρ.set i (some (eL e ys)) = E ys) : Rf (finS [] (fApp i f ρ)) (appR xs d) (fun ys => .nx (E ys)) := by
  rw [fApp_at h]
  exact s_lift hf (k_app E hE)
theorem s_appI {xs : List α} {r : Res α} (E : List α → Env) (h : ρ[i]? = some (some (eL e xs))) (hf : Rf (f ρ) r e) (hE : ∀ ys, ρ.set i (some (eL e ys)) = E ys) : Rf (finS [] (fApp i f ρ)) (r.bind fun d => appR xs d) (fun ys => .nx (E ys)) := by
  rw [fApp_at h]
  exact s_liftI hf fun d => k_app E hE
theorem fSetIx_at {xs : List D} (h : ρ[i]? = some (some (.lst xs))) : fSetIx i f fj ρ = lift (f ρ) ρ fun d => lift (fj ρ) ρ fun j => match j with
    | .int z => (match ixN xs.length z with
      | some k => .ok (.nx (ρ.set i (some (.lst (xs.set k d)))))
      | none => .er)
    | _ => .er := by unfold fSetIx; rw [h]; try rfl
theorem s_setIx {xs : List α} {d : α} {z : Int} (E : List α → Env) (h : ρ[i]? = some (some (eL e xs))) (hf : f ρ = .ok (e d)) (hj : fj ρ = .ok (.int z)) (hE : ∀ ys, ρ.set i (some (eL e ys)) = E ys) : Rf (finS [] (fSetIx i f fj ρ)) (setR xs z d) (fun ys => .nx (E ys)) := by
  rw [fSetIx_at h]
  refine s_lift hf (s_lift hj ?_)
  unfold setR
  dsimp only
  rw [List.length_map]
  cases ixN xs.length z with
  | some k =>
    show Res.ok (Fl.nx _) = Res.ok (Fl.nx _)
    rw [← hE, show eL e (xs.set k d) = .lst ((xs.map e).set k (e d)) by unfold eL; rw [List.map_set]]
    rfl
  | none => trivial
theorem s_setIxJ {xs : List α} {d : α} {rj : Res Int} (E : List α → Env) (h : ρ[i]? = some (some (eL e xs))) (hf : f ρ = .ok (e d)) (hj : Rf (fj ρ) rj D.int) (hE : ∀ ys, ρ.set i (some (eL e ys)) = E ys) : Rf (finS [] (fSetIx i f fj ρ)) (rj.bind fun z => setR xs z d) (fun ys => .nx (E ys)) := by
  cases rj with
  | ok z => exact s_setIx E h hf hj hE
  | ex c fs => rw [fSetIx_at h, hf, show fj ρ = _ from hj]; exact rfl
  | er => trivial
theorem s_setIxIJ {xs : List α} {r : Res α} {rj : Res Int} (E : List α → Env) (h : ρ[i]? = some (some (eL e xs))) (hf : Rf (f ρ) r e) (hj : Rf (fj ρ) rj D.int) (hE : ∀ ys, ρ.set i (some (eL e ys)) = E ys) : Rf (finS [] (fSetIx i f fj ρ)) (r.bind fun d => rj.bind fun z => setR xs z d) (fun ys => .nx (E ys)) := by
  cases r with
  | ok d => exact s_setIxJ E h hf hj hE
  | ex c fs => rw [fSetIx_at h, show f ρ = _ from hf]; exact rfl
  | er => trivial
/-- pops -/
def RfX {α τ : Type} (m : Res (D × Env)) (r : Res (α × τ)) (e : α → D) (E : τ → Env) : Prop := match r with
  | .ok v => m = .ok (e v.1, E v.2)
  | _ => True
theorem x_pop {xs : List α} {z : Int} (E : List α → Env) (h : ρ[i]? = some (some (eL e xs))) (hf : f ρ = .ok (.int z)) (hE : ∀ ys, ρ.set i (some (eL e ys)) = E ys) : RfX (fPop i f ρ) (popR xs z) e E := by
  unfold fPop
  rw [h, hf]
  unfold popR
  dsimp only [eL]
  rw [List.length_map]
  cases q : ixN xs.length z with
  | some k =>
    dsimp only
    rw [List.getElem?_map]
    cases q2 : xs[k]? with
    | some y =>
      dsimp only [Option.map]
      split
      · rename_i hs
        show Res.ok _ = Res.ok _
        rw [← hE]
        show Res.ok (e y, ρ.set i (some (.lst ((xs.map e).eraseIdx k)))) = Res.ok (e y, ρ.set i (some (.lst ((xs.eraseIdx k).map e))))
        rw [show (xs.map e).eraseIdx k = (xs.eraseIdx k).map e by
          rw [List.eraseIdx_eq_take_drop_succ, List.eraseIdx_eq_take_drop_succ, List.map_append, List.map_take, List.map_drop]]
      · trivial
    | none => trivial
  | none => trivial
theorem x_popI {xs : List α} {rz : Res Int} (E : List α → Env) (h : ρ[i]? = some (some (eL e xs))) (hf : Rf (f ρ) rz D.int) (hE : ∀ ys, ρ.set i (some (eL e ys)) = E ys) : RfX (fPop i f ρ) ((nx rz).bind fun z => popR xs z) e E := by
  cases rz with
  | ok z => exact x_pop E h hf hE
  | _ => trivial
theorem s_appX {τ : Type} {f : Env → Res (D × Env)} {r : Res (α × τ)} {E1 : τ → Env} {xs : List α} (E : List α × τ → Env) (h : ρ[i]? = some (some (eL e xs))) (hf : RfX (f ρ) r e E1) (h1 : ∀ t, (E1 t)[i]? = some (some (eL e xs))) (hE : ∀ ys t, (E1 t).set i (some (eL e ys)) = E (ys, t)) :
    Rf (finS [] (fAppX i f ρ)) ((nx r).bind fun v => (appR xs v.1).bind fun ys => .ok (ys, v.2)) (fun s => .nx (E s)) := by
  cases r with
  | ok v =>
    show Rf _ ((appR xs v.1).bind fun ys => .ok (ys, v.2)) _
    unfold fAppX
    rw [h]
    dsimp only [eL]
    rw [show f ρ = .ok (e v.1, E1 v.2) from hf]
    dsimp only
    rw [h1]
    unfold appR
    dsimp only [eL]
    rw [List.length_map]
    split
    · show Res.ok (Fl.nx _) = Res.ok (Fl.nx _)
      rw [← hE, show eL e (xs ++ [v.1]) = .lst (xs.map e ++ [e v.1]) by unfold eL; rw [List.map_append]; rfl]
      rfl
    · trivial
  | _ => trivial
theorem s_fld {c fn : Str} {ns : List Str} {ds : List D} (E : α → Env) (hρ : ρ[i]? = some (some (.obj c ns ds))) (hn : ns.length < 100) (hf : Rf (f ρ) r e) (hE : ∀ v, ρ.set i (some (.obj c (putN fn ns) (putD fn (e v) ns ds))) = E v) : Rf (finS [] (fFld c fn i f ρ)) r (fun s => .nx (E s)) := by
  have h : fFld c fn i f ρ = lift (f ρ) ρ fun d => .ok (.nx (ρ.set i (some (.obj c (putN fn ns) (putD fn d ns ds))))) := by
    unfold fFld
    rw [hρ]
    dsimp only
    rw [if_pos ⟨rfl, hn⟩]
  rw [h]
  cases r with
  | ok v => rw [show f ρ = .ok (e v) from hf]; show finS [] (.ok (.nx _)) = _; rw [hE]; rfl
  | ex c fs => rw [show f ρ = _ from hf]; rfl
  | er => trivial
theorem fld_hit {c f : Str} {ns : List Str} {d : D} {ds : List D} : dFld c f (.obj c (f :: ns) (d :: ds)) = .ok d := by
  unfold dFld
  dsimp only
  rw [if_pos rfl]
  unfold lookF
  rw [if_pos rfl]
theorem fld_skip {c f g : Str} {ns : List Str} {x d : D} {ds : List D} (h : g ≠ f) (k : dFld c f (.obj c ns ds) = .ok d) : dFld c f (.obj c (g :: ns) (x :: ds)) = .ok d := by
  unfold dFld at k ⊢
  dsimp only at k ⊢
  rw [if_pos rfl] at k ⊢
  unfold lookF
  rw [if_neg h]
  exact k
theorem q_meth {c mn : Str} {np : Nat} {g : List D → Res D} {ns : List Str} {ds : List D} (hx : fa ρ = .ok (.obj c ns ds)) (hl : lookF ns ds mn = none) (h : Rf ((fs ρ).bind fun ys => chk np g (.obj c ns ds :: ys)) N o') : Rf (fMeth c mn np g fa fs ρ) N o' := by
  unfold fMeth
  rw [hx]
  show Rf (if c = c ∧ lookF ns ds mn = none then _ else _) _ _
  rw [if_pos ⟨rfl, hl⟩]
  exact h
theorem q_prop {c : Str} {g : List D → Res D} {ns : List Str} {ds : List D} {e' : γ → D} (h : Rf (g [.obj c ns ds]) N e') : Rf (dProp c g (.obj c ns ds)) (nx N) e' := by
  unfold dProp
  dsimp only
  rw [if_pos rfl]
  cases N with
  | ok v =>
    show (match chk 1 g [.obj c ns ds] with | .ok d => Res.ok d | _ => .er) = _
    rw [chk_one, show g _ = _ from h]
  | _ => trivial
end
class Dat {α : Type} [DecidableEq α] (e : α → D) (k : outParam Nat) : Prop where
  py : ∀ x, ∃ y, D.py (e x) = some y ∧ y.canLay0 = true ∧ y.depth ≤ k
  inj : ∀ x x' y y', D.py (e x) = some y → D.py (e x') = some y' → PyData.eqv y y' = decide (x = x')
section
variable {α β : Type} [DecidableEq α] [DecidableEq β] {e : α → D} {f : β → D} {k l : Nat}
instance : Dat D.int 0 where
  py x := ⟨.int x, rfl, rfl, by simp [PyData.depth]⟩
  inj x x' y y' h h' := by
    cases h; cases h'
    simp only [PyData.eqv]
    by_cases hx : x = x' <;> simp [hx]
instance : Dat D.bl 0 where
  py x := ⟨.bool x, rfl, rfl, by simp [PyData.depth]⟩
  inj x x' y y' h h' := by
    cases h; cases h'
    cases x <;> cases x' <;> rfl
theorem pys_map [Dat e k] : ∀ xs : List α, ∃ ys, D.pys (xs.map e) = some ys ∧ PyData.canLayAll0 ys = true ∧ PyData.depthAll ys ≤ k
  | [] => ⟨[], rfl, rfl, by simp [PyData.depthAll]⟩
  | x :: xs => by
    obtain ⟨y, h1, h2, h3⟩ := Dat.py (e := e) x
    obtain ⟨ys, k1, k2, k3⟩ := pys_map xs
    refine ⟨y :: ys, ?_, ?_, ?_⟩
    · rw [List.map_cons]; unfold D.pys; rw [h1, k1]
    · simp only [PyData.canLayAll0, h2, k2, Bool.and_self]
    · simp only [PyData.depthAll]; omega
theorem pys_inj [Dat e k] : ∀ (xs xs' : List α) (ys ys' : List PyData), D.pys (xs.map e) = some ys → D.pys (xs'.map e) = some ys' → PyData.eqvAll ys ys' = decide (xs = xs')
  | [], [], ys, ys', h, h' => by cases h; cases h'; simp [PyData.eqvAll]
  | [], x' :: xs', ys, ys', h, h' => by
    cases h
    rw [List.map_cons] at h'
    unfold D.pys at h'
    split at h'
    · cases h'; simp [PyData.eqvAll]
    · cases h'
  | x :: xs, [], ys, ys', h, h' => by
    cases h'
    rw [List.map_cons] at h
    unfold D.pys at h
    split at h
    · cases h; simp [PyData.eqvAll]
    · cases h
  | x :: xs, x' :: xs', ys, ys', h, h' => by
    rw [List.map_cons] at h h'
    unfold D.pys at h h'
    split at h
    · rename_i y zs e1 e2
      cases h
      split at h'
      · rename_i y' zs' e1' e2'
        cases h'
        rw [PyData.eqvAll, Dat.inj x x' _ _ e1 e1', pys_inj xs xs' _ _ e2 e2']
        by_cases h1 : x = x' <;> by_cases h2 : xs = xs' <;> simp [h1, h2]
      · cases h'
    · cases h
theorem py_lst' {ds : List D} {ys : List PyData} (h : D.pys ds = some ys) : D.py (.lst ds) = some (.list ys) := by unfold D.py; rw [h]
theorem py_tup' {ds : List D} {ys : List PyData} (h : D.pys ds = some ys) : D.py (.tup ds) = some (.tuple ys) := by unfold D.py; rw [h]
theorem py_lst_of {ds : List D} {y : PyData} (h : D.py (.lst ds) = some y) : ∃ ys, D.pys ds = some ys ∧ y = .list ys := by
  unfold D.py at h
  split at h
  · rename_i ys e; cases h; exact ⟨ys, e, rfl⟩
  · cases h
theorem py_tup_of {ds : List D} {y : PyData} (h : D.py (.tup ds) = some y) : ∃ ys, D.pys ds = some ys ∧ y = .tuple ys := by
  unfold D.py at h
  split at h
  · rename_i ys e; cases h; exact ⟨ys, e, rfl⟩
  · cases h
instance [Dat e k] : Dat (eL e) (k + 1) where
  py xs := by
    obtain ⟨ys, h1, h2, h3⟩ := pys_map (e := e) xs
    refine ⟨.list ys, py_lst' h1, ?_, ?_⟩
    · simp only [PyData.canLay0, h2]
    · simp only [PyData.depth]; omega
  inj x x' y y' h h' := by
    obtain ⟨ys, h1, rfl⟩ := py_lst_of h
    obtain ⟨ys', h1', rfl⟩ := py_lst_of h'
    simp only [PyData.eqv]
    exact pys_inj _ _ _ _ h1 h1'
instance [Dat e k] : Dat (eT e) (k + 1) where
  py xs := by
    obtain ⟨ys, h1, h2, h3⟩ := pys_map (e := e) xs
    refine ⟨.tuple ys, py_tup' h1, ?_, ?_⟩
    · simp only [PyData.canLay0, h2]
    · simp only [PyData.depth]; omega
  inj x x' y y' h h' := by
    obtain ⟨ys, h1, rfl⟩ := py_tup_of h
    obtain ⟨ys', h1', rfl⟩ := py_tup_of h'
    simp only [PyData.eqv]
    exact pys_inj _ _ _ _ h1 h1'
theorem pys2 {a b : D} {y z : PyData} (h1 : D.py a = some y) (h2 : D.py b = some z) : D.pys [a, b] = some [y, z] := by simp [D.pys, h1, h2]
theorem pys2_of {a b : D} {ys : List PyData} (h : D.pys [a, b] = some ys) : ∃ y z, D.py a = some y ∧ D.py b = some z ∧ ys = [y, z] := by
  unfold D.pys at h
  split at h
  · rename_i y zs e1 e2
    unfold D.pys at e2
    split at e2
    · rename_i z ws e3 e4
      cases e4; cases e2; cases h
      exact ⟨y, z, e1, e3, rfl⟩
    · cases e2
  · cases h
instance [Dat e k] [Dat f l] : Dat (eP2 e f) (max k l + 1) where
  py x := by
    obtain ⟨y, h1, h2, h3⟩ := Dat.py (e := e) x.1
    obtain ⟨z, k1, k2, k3⟩ := Dat.py (e := f) x.2
    refine ⟨.tuple [y, z], py_tup' (pys2 h1 k1), ?_, ?_⟩
    · simp only [PyData.canLay0, PyData.canLayAll0, h2, k2, Bool.and_self]
    · simp only [PyData.depth, PyData.depthAll]; omega
  inj x x' y y' h h' := by
    obtain ⟨ys, h1, rfl⟩ := py_tup_of h
    obtain ⟨ys', h1', rfl⟩ := py_tup_of h'
    obtain ⟨a, b, ea, eb, rfl⟩ := pys2_of h1
    obtain ⟨a', b', ea', eb', rfl⟩ := pys2_of h1'
    simp only [PyData.eqv, PyData.eqvAll, Dat.inj _ _ _ _ ea ea', Dat.inj _ _ _ _ eb eb']
    by_cases h1 : x.1 = x'.1 <;> by_cases h2 : x.2 = x'.2 <;> simp [h1, h2, Prod.ext_iff]
instance [Dat e k] : Dat (eP1 e) (k + 1) where
  py x := by
    obtain ⟨y, h1, h2, h3⟩ := Dat.py (e := e) x
    refine ⟨.tuple [y], py_tup' (by simp [D.pys, h1]), ?_, ?_⟩
    · simp only [PyData.canLay0, PyData.canLayAll0, h2, Bool.and_self]
    · simp only [PyData.depth, PyData.depthAll]; omega
  inj x x' y y' h h' := by
    obtain ⟨ys, h1, rfl⟩ := py_tup_of h
    obtain ⟨ys', h1', rfl⟩ := py_tup_of h'
    have q := pys_inj (e := e) [x] [x'] _ _ h1 h1'
    simp only [PyData.eqv]
    rw [q]
    by_cases h1 : x = x' <;> simp [h1]
theorem shp [Dat e k] (hk : k ≤ 64) {x : α} {y : PyData} (h : D.py (e x) = some y) : SeqAt.shaped y = true := by
  obtain ⟨y', h1, h2, h3⟩ := Dat.py (e := e) x
  rw [h] at h1
  cases h1
  unfold SeqAt.shaped
  rw [h2, decide_eq_true (show y.depth ≤ 64 by omega)]
  rfl
theorem eqD_dat [Dat e k] {x x' : α} (hk : k ≤ 64) : eqD (e x) (e x') = .ok (decide (x = x')) := by
  obtain ⟨y, h1, _⟩ := Dat.py (e := e) x
  obtain ⟨y', h1', _⟩ := Dat.py (e := e) x'
  unfold eqD
  rw [h1, h1']
  simp only [shp hk h1, shp hk h1', Bool.and_self, if_true, Dat.inj x x' _ _ h1 h1']
theorem op_eq [Dat e k] {x x' : α} (hk : k ≤ 64 := by decide) : dEq (e x) (e x') = .ok (.bl (decide (x = x'))) := by unfold dEq; rw [eqD_dat hk]; rfl
theorem op_ne [Dat e k] {x x' : α} (hk : k ≤ 64 := by decide) : dNe (e x) (e x') = .ok (.bl (!decide (x = x'))) := by unfold dNe; rw [eqD_dat hk]; rfl
end
theorem isi_of {T : String} {d : D} {b : Bool} (h : isTy T d = .ok b) : dIsi T d = .ok (.bl b) := by unfold dIsi; rw [h]; rfl
theorem isi2_a {T U : String} {d : D} (h : isTy T d = .ok true) : dIsi2 T U d = .ok (.bl true) := by unfold dIsi2; rw [h]; rfl
theorem isi2_b {T U : String} {d : D} {b : Bool} (h : isTy T d = .ok false) (k : isTy U d = .ok b) : dIsi2 T U d = .ok (.bl b) := by unfold dIsi2; rw [h]; show (isTy U d).bind _ = _; rw [k]; rfl
theorem forR_inv {α σ : Type} {f : σ → α → Res σ} {xs : List α} {s : σ} (P : Nat → σ → Prop) (h0 : P 0 s) (hs : ∀ i x s, xs[i]? = some x → P i s → ∃ s', f s x = .ok s' ∧ P (i + 1) s') : ∃ s', forR f xs s = .ok s' ∧ P xs.length s' := by
  suffices h : ∀ (ys : List α) (k : Nat) (s : σ), P k s → (∀ i x, ys[i]? = some x → xs[k + i]? = some x) → k + ys.length = xs.length → ∃ s', forR f ys s = .ok s' ∧ P xs.length s' by
    exact h xs 0 s h0 (fun i x e => by rw [Nat.zero_add]; exact e) (Nat.zero_add _)
  intro ys
  induction ys with
  | nil => intro k s hp _ hl; exact ⟨s, rfl, by rw [← hl]; exact hp⟩
  | cons y ys ih =>
    intro k s hp hx hl
    obtain ⟨s1, e1, p1⟩ := hs k y s (by have := hx 0 y rfl; simpa using this) hp
    obtain ⟨s2, e2, p2⟩ := ih (k + 1) s1 p1 (fun i x e => by
      have := hx (i + 1) x (by simpa using e)
      rw [show k + 1 + i = k + (i + 1) by omega]; exact this) (by rw [List.length_cons] at hl; omega)
    exact ⟨s2, by unfold forR; rw [e1]; exact e2, p2⟩
theorem forC_inv {α σ β : Type} {f : σ → α → Res (Ctl σ β)} {xs : List α} {s : σ} (Q : Ctl σ β → Prop) (P : Nat → σ → Prop) (h0 : P 0 s) (hs : ∀ i x s, xs[i]? = some x → P i s → ∃ o, f s x = .ok o ∧ (match o with
    | .go s' => P (i + 1) s'
    | .out s' => Q (.go s')
    | .ret b => Q (.ret b))) (hd : ∀ s, P xs.length s → Q (.go s)) : ∃ o, forC f xs s = .ok o ∧ Q o := by
  suffices h : ∀ (ys : List α) (k : Nat) (s : σ), P k s → (∀ i x, ys[i]? = some x → xs[k + i]? = some x) → k + ys.length = xs.length → ∃ o, forC f ys s = .ok o ∧ Q o by
    exact h xs 0 s h0 (fun i x e => by rw [Nat.zero_add]; exact e) (Nat.zero_add _)
  intro ys
  induction ys with
  | nil => intro k s hp _ hl; exact ⟨_, rfl, hd s (by rw [← hl]; exact hp)⟩
  | cons y ys ih =>
    intro k s hp hx hl
    obtain ⟨o, e1, p1⟩ := hs k y s (by have := hx 0 y rfl; simpa using this) hp
    cases o with
    | go s1 =>
      obtain ⟨o2, e2, p2⟩ := ih (k + 1) s1 p1 (fun i x e => by
        have := hx (i + 1) x (by simpa using e)
        rw [show k + 1 + i = k + (i + 1) by omega]; exact this) (by rw [List.length_cons] at hl; omega)
      exact ⟨o2, by unfold forC; rw [e1]; exact e2, p2⟩
    | out s1 => exact ⟨.go s1, by unfold forC; rw [e1]; rfl, p1⟩
    | ret b => exact ⟨.ret b, by unfold forC; rw [e1]; rfl, p1⟩
theorem lcR_map {α β : Type} {xs : List α} {f : α → Res β} {g : α → β} (hz : xs.length ≤ 1000000) (h : ∀ x ∈ xs, f x = .ok (g x)) : lcR xs (fun _ => .ok true) f = .ok (xs.map g) := by
  unfold lcR
  rw [if_pos (szOk_yes hz)]
  clear hz
  induction xs with
  | nil => rfl
  | cons x xs ih =>
    unfold lcR.go
    rw [h x List.mem_cons_self, ih fun y hy => h y (List.mem_cons_of_mem _ hy)]
    rfl
end Da
namespace Da
theorem op_isN {α : Type} {e : α → D} (h : ∀ v, dIsN (e v) = .ok (.bl false)) {x : Option α} : dIsN (eO e x) = .ok (.bl (Option.isNone x)) := by
  cases x with
  | none => rfl
  | some v => exact h v
end Da
namespace Da
open PySem PySem.Spec L2
def dZip3 : List D → Res (List D)
  | [.lst xs, .tup ys] => .ok (zipD xs ys)
  | [.tup xs, .tup ys] => .ok (zipD xs ys)
  | _ => .er
def fZip3 (fs : Env → Res (List D)) : Env → Res (List D) := fun ρ => (fs ρ).bind dZip3
theorem walk_zM {K : PySem.W.Frag} {mg : Str → Option Value} {S : Hp} {a b : Addr} {vs ws : List V} {ds es : List D} (r : RepL K mg S vs ds) (r2 : RepL K mg S ws es) (h : SqL K S a vs) (h2 : SqT K S b ws) : WalkD K mg (ItzM K a b) S (zipD ds es) where
  go := fun i d S1 H1 e s1 s2 => by
    rw [zipD_at] at e
    cases ed : ds[i]? with
    | none => rw [ed] at e; cases e
    | some d0 =>
      cases ee : es[i]? with
      | none => rw [ed, ee] at e; cases e
      | some e0 =>
        rw [ed, ee] at e
        cases e
        obtain ⟨v, ev, rv⟩ := r.get ed
        obtain ⟨w, ew, rw'⟩ := r2.get ee
        refine ⟨⟨vs, ws, v, w, same_l s2 (same_l s1 h), same_t s2 (same_t s1 h2), ev, ew⟩, fun x H2 ⟨T, y, z, e1, hT, e2, hy, hz⟩ => ?_⟩
        subst e1 e2
        have q1 := hy vs (same_l s2 (same_l s1 h))
        have q2 := hz ws (same_t s2 (same_t s1 h2))
        rw [ev] at q1
        rw [ew] at q2
        cases q1; cases q2
        have st := Step.laid (o := HO.tup [v, w]) s2 hT
        exact ⟨_, st, Rep.tupL upd_same (.cons ((rv.mono s1).mono st.ss) (.cons ((rw'.mono s1).mono st.ss) .nil))⟩
  stop := fun S1 H1 s1 s2 => ⟨vs, ws, same_l s2 (same_l s1 h), same_t s2 (same_t s1 h2), by rw [zipD_length, r.len, r2.len]; omega⟩
theorem dZip3_ok {ds xs : List D} (h : dZip3 ds = .ok xs) : ∃ as bs, xs = zipD as bs ∧ (ds = [.lst as, .tup bs] ∨ ds = [.tup as, .tup bs]) := by
  unfold dZip3 at h
  split at h
  · cases h; exact ⟨_, _, rfl, .inl rfl⟩
  · cases h; exact ⟨_, _, rfl, .inr rfl⟩
  · cases h
theorem dZip3_ex {ds : List D} {c : Str} {fs : List (Str × D)} : dZip3 ds ≠ .ex c fs := by
  unfold dZip3
  split <;> exact fun z => nomatch z
section
variable {X : Cx} {E : WX} {m : Mds} {a b : Expr} {fs : Env → Res (List D)} {p pos tpos : Pos} {elts : List Expr} {kk : Nat}
theorem ji_zip3 (ha : JA X E m [a, b] fs) (hm : X.mg "zip" = none) (hg : Gl X "zip" := by rfl) (hs : starEach [a, b] X.env = (false, eval a X.env) :: starEach [b] X.env := by rfl) (hpl : (backTo pos (starEach [b] X.env)).any (·.1) = false := by rfl) : JI X E m (.Tuple elts kk tpos) (.Call (.Name "zip" p) [a, b] [] pos) (fZip3 fs) := by
  refine ⟨⟨fun pins s σ H R I h => (pi_zip3 hg hm ha.pa hs hpl).run pins s σ H R I ?_⟩⟩
  obtain ⟨S, ρ, hm, hp⟩ := h
  refine ⟨S, ρ, hm, (PostW.bind hp).imp fun ds S1 H1 s1 k vs rv => ?_⟩
  obtain ⟨xs, e, k⟩ := PostW.okOf k fun _ _ => dZip3_ex
  obtain ⟨as, bs, rfl, hd⟩ := dZip3_ok e
  rcases hd with rfl | rfl
  · obtain ⟨v, w, rfl, rd, re⟩ := repl2 rv
    obtain ⟨a1, v1, rfl, h1, r1⟩ := rd.of_lst
    obtain ⟨a2, v2, rfl, h2, r2⟩ := re.of_tup
    exact ⟨a1, a2, v1, v2, rfl, .inr (.inr ⟨.inl (.inl (s1.sub _ _ h1)), same_t s1.sub h2, k S1 H1 (Step.refl s1.sub) _ (walk_zM r1 r2 (.inl (.inl h1)) h2)⟩)⟩
  · obtain ⟨v, w, rfl, rd, re⟩ := repl2 rv
    obtain ⟨a1, v1, rfl, h1, r1⟩ := rd.of_tup
    obtain ⟨a2, v2, rfl, h2, r2⟩ := re.of_tup
    exact ⟨a1, a2, v1, v2, rfl, .inr (.inl ⟨same_t s1.sub h1, same_t s1.sub h2, k S1 H1 (Step.refl s1.sub) _ (walk_zT r1 r2 h1 h2)⟩)⟩
end
section
variable {α β γ : Type} {ρ : Env} {fa fb : Env → Res D} {e : α → D} {f : β → D} {fs : Env → Res (List D)} {N : Res γ}
theorem it_zip3 {xs : List α} {ys : List β} (h : fa ρ = .ok (eL e xs)) (k : fb ρ = .ok (eT f ys)) : fZip3 (fA fa (fA fb fA0)) ρ = .ok ((xs.zip ys).map (eP2 e f)) := by
  unfold fZip3
  rw [evA h (evA k rfl), ← zip_map]
  rfl
theorem it_zip3T {xs : List α} {ys : List β} (h : fa ρ = .ok (eT e xs)) (k : fb ρ = .ok (eT f ys)) : fZip3 (fA fa (fA fb fA0)) ρ = .ok ((xs.zip ys).map (eP2 e f)) := by
  unfold fZip3
  rw [evA h (evA k rfl), ← zip_map]
  rfl
end
end Da
namespace Da
open PySem PySem.Spec L2
section
variable {α β γ δ : Type} {K : Res Fl → Res δ} {F G : FS} {ρ : Env} {r : Res γ} {o : γ → δ} {c : Str} {ns : List Str} {fs : Env → Res (List D)} {l : List (Str × Bool)} {i k : Nat}
theorem rf_ex {m : Res β} {e : α → β} {fs : List (Str × D)} (h : m = .ex c fs) : Rf m (.ex c fs : Res α) e := h
theorem t_raise (hK : Fin K) (h : Rf ((fs ρ).bind fun ds => if ds.length = ns.length then (.ex c (ns.zip ds).reverse : Res δ) else .er) r o) : Rf (K (fSeq (fRaise c ns fs) G ρ)) r o := by
  unfold fSeq fRaise
  cases e : fs ρ with
  | ok ds =>
    rw [e] at h
    have h : Rf (if ds.length = ns.length then (.ex c (ns.zip ds).reverse : Res δ) else .er) r o := h
    show Rf (K (match (if ds.length = ns.length then .ok (.xc c (ns.zip ds).reverse ρ) else .er : Res Fl) with | .ok (.nx ρ') => G ρ' | o => o)) r o
    split at h
    · rename_i hl
      rw [if_pos hl]
      show Rf (K (.ok (.xc c (ns.zip ds).reverse ρ))) r o
      rw [hK.xc]
      exact h
    · cases r with
      | ok v => exact nomatch (show (Res.er : Res δ) = _ from h)
      | ex c fs => exact nomatch (show (Res.er : Res δ) = _ from h)
      | er => exact trivial
  | ex c' fs' =>
    rw [e] at h
    show Rf (K (.ok (.xc c' fs' ρ))) r o
    rw [hK.xc]
    exact h
  | er =>
    rw [e] at h
    cases r with
    | ok v => exact nomatch (show (Res.er : Res δ) = _ from h)
    | ex c fs => exact nomatch (show (Res.er : Res δ) = _ from h)
    | er => exact trivial
/-- a clause -/
def tryR (l : List (Str × Bool)) (r : Res γ) (g : Str → List (Str × D) → Res γ) : Res γ := match r with
  | .ex c fs => (match askOf l c with
    | some true => nx (g c fs)
    | some false => .ex c fs
    | none => .er)
  | r => r
@[simp] theorem tryR_ok {v : γ} {g : Str → List (Str × D) → Res γ} : tryR l (.ok v) g = .ok v := rfl
end
def unO {α : Type} : Option α → Res α
  | some v => .ok v
  | none => .er
@[simp] theorem unO_some {α : Type} {v : α} : unO (some v) = .ok v := rfl
instance : Dat (eO D.int) 0 where
  py x := by
    cases x with
    | none => exact ⟨.none, rfl, rfl, by simp [PyData.depth]⟩
    | some v => exact ⟨.int v, rfl, rfl, by simp [PyData.depth]⟩
  inj x x' y y' h h' := by
    cases x with
    | none =>
      cases h
      cases x' with
      | none => cases h'; simp [PyData.eqv]
      | some v => cases h'; simp [PyData.eqv]
    | some u =>
      cases h
      cases x' with
      | none => cases h'; simp [PyData.eqv]
      | some v =>
        cases h'
        simp [PyData.eqv]
        by_cases h : u = v <;> simp [h]
/-- by cases of what may be None -/
def optC {τ γ : Type} (x : Option τ) (n : Res γ) (f : τ → Res γ) : Res γ := match x with
  | none => n
  | some y => f y
@[simp] theorem optC_none {τ γ : Type} {n : Res γ} {f : τ → Res γ} : optC none n f = n := rfl
@[simp] theorem optC_some {τ γ : Type} {y : τ} {n : Res γ} {f : τ → Res γ} : optC (some y) n f = f y := rfl
end Da
namespace Da
open PySem PySem.Spec L2
def borR {α : Type} (xs : List α) (z : Int) : Res (Nat × α) := match ixN xs.length z with
  | some k => (match xs[k]? with
    | some u => .ok (k, u)
    | none => .er)
  | none => .er
def borK {α γ : Type} (r : Res (Nat × α)) (M : Nat → α → Res γ) : Res γ := r.bind fun v => M v.1 v.2
section
variable {α β γ δ σ τ : Type} {K : Res Fl → Res δ} {F G : FS} {Fk : Nat → FS} {ρ : Env} {f fa fb fj fj2 : Env → Res D} {e : α → D} {i j x y k : Nat} {r : Res α} {N : Res γ} {o : γ → δ}
theorem t_bor {xs : List α} {z : Int} {M : Nat → α → Res γ} (h : ρ[x]? = some (some (eL e xs))) (hj : fj ρ = .ok (.int z)) (E : Nat → α → Env) (hE : ∀ k u, (ρ.set x (some (.lst ((xs.map e).set k junk)))).set y (some (e u)) = E k u) (hk : ∀ k u, Rf (K (Fk k (E k u))) (M k u) o) : Rf (K (fBor x y fj Fk ρ)) (borK (borR xs z) M) o := by
  unfold borK fBor borR
  rw [h]
  dsimp only [eL]
  rw [hj, lift_ok]
  dsimp only
  rw [List.length_map]
  cases ixN xs.length z with
  | none => exact trivial
  | some k =>
    dsimp only
    rw [List.getElem?_map]
    cases hu : xs[k]? with
    | none => exact trivial
    | some u =>
      show Rf (K (Fk k _)) (M k u) o
      rw [hE]
      exact hk k u
theorem t_borI {xs : List α} {rz : Res Int} {M : Nat → α → Res γ} (fin : Fin K) (h : ρ[x]? = some (some (eL e xs))) (hj : Rf (fj ρ) rz D.int) (E : Nat → α → Env) (hE : ∀ k u, (ρ.set x (some (.lst ((xs.map e).set k junk)))).set y (some (e u)) = E k u) (hk : ∀ k u, Rf (K (Fk k (E k u))) (M k u) o) : Rf (K (fBor x y fj Fk ρ)) (rz.bind fun z => borK (borR xs z) M) o := by
  cases rz with
  | ok z => exact t_bor h hj E hE hk
  | ex c fs =>
    show K _ = _
    unfold fBor
    rw [h]
    dsimp only [eL]
    rw [show fj ρ = _ from hj, lift_ex]
    exact fin.xc c fs ρ
  | er => exact trivial
theorem seq_bor : fSeq (fBor x y fj Fk) G ρ = fBor x y fj (fun k => fSeq (Fk k) G) ρ := by
  show andThen (fBor x y fj Fk ρ) G = _
  unfold fBor
  cases hx : ρ[x]? with
  | none => rfl
  | some od =>
    cases od with
    | none => rfl
    | some d0 =>
      cases d0 with
      | lst xs =>
        dsimp only
        cases hj : fj ρ with
        | ok d =>
          rw [lift_ok, lift_ok]
          cases d with
          | int z =>
            dsimp only
            cases hz : ixN xs.length z with
            | none => rfl
            | some k =>
              dsimp only
              cases hu : xs[k]? with
              | none => rfl
              | some u => rfl
          | _ => rfl
        | ex c fs => rfl
        | er => rfl
      | _ => rfl
theorem t_borS (h : Rf (K (fBor x y fj (fun k => fSeq (Fk k) G) ρ)) N o) : Rf (K (fSeq (fBor x y fj Fk) G ρ)) N o := by rw [seq_bor]; exact h
theorem t_give {xs : List α} {u : α} {M : List α → Res γ} (hx : ρ[x]? = some (some (.lst ((xs.map e).set k junk)))) (hy : ρ[y]? = some (some (e u))) (E : List α → Env) (hE : ∀ ys, (ρ.set x (some (eL e ys))).set y none = E ys) (hk : ∀ ys, Rf (K (F (E ys))) (M ys) o) : Rf (K (fGive x y k F ρ)) ((Res.ok (xs.set k u)).bind M) o := by
  unfold fGive
  rw [hx, hy]
  dsimp only
  have e1 : D.lst (((xs.map e).set k junk).set k (e u)) = eL e (xs.set k u) := by
    unfold eL
    rw [List.set_set, List.map_set]
  rw [e1, hE]
  exact hk _
theorem seq_give : fSeq (fGive x y k F) G ρ = fGive x y k (fSeq F G) ρ := by
  show andThen (fGive x y k F ρ) G = _
  unfold fGive
  cases hx : ρ[x]? with
  | none => rfl
  | some od =>
    cases od with
    | none => rfl
    | some d0 =>
      cases d0 with
      | lst xs =>
        cases hy : ρ[y]? with
        | none => rfl
        | some oy =>
          cases oy with
          | none => rfl
          | some u => rfl
      | _ => rfl
theorem t_giveS (h : Rf (K (fGive x y k (fSeq F G) ρ)) N o) : Rf (K (fSeq (fGive x y k F) G ρ)) N o := by rw [seq_give]; exact h
variable {ex : α → D} {eb : β → D} {it : Env → Res (List D)} {g : D → Env → Res Env} {fx : Env → Res (D × Env)} {vs : List Nat}
end
end Da
namespace Da
open PySem PySem.Spec L2
section
variable {κ α β γ δ τ ι : Type} [DecidableEq κ] {kf : κ → Key} {kt : κ → List Key} {ek : κ → D} {e : α → D} {xs : List (κ × α)} {k : κ} {ρ : Env} {f fj fa fb : Env → Res D} {i : Nat}
variable {it : Env → Res (List D)} {g : D → Env → Res Env} {c : Env → Res Bool} {fk fv : Env → Res D} {vs : List Nat} {ex : ι → D}
theorem s_appMv {α : Type} {e : α → D} {xs : List α} {d : α} {i j : Nat} (E : List α → Env) (h : ρ[i]? = some (some (eL e xs))) (hj : ρ[j]? = some (some (e d))) (hE : ∀ ys, (ρ.set j none).set i (some (eL e ys)) = E ys) : Rf (finS [] (fAppMv i j ρ)) (appR xs d) (fun ys => .nx (E ys)) := by
  unfold fAppMv appR
  rw [h, hj]
  dsimp only [eL]
  rw [List.length_map]
  split
  · show Res.ok (Fl.nx _) = Res.ok (Fl.nx _)
    rw [← hE, show eL e (xs ++ [d]) = .lst (xs.map e ++ [e d]) by unfold eL; rw [List.map_append]; rfl]
    rfl
  · exact trivial
end
end Da
namespace Kx
open PySem PySem.Spec L2 Da
section
variable {α κ γ : Type} {ρ : Da.Env} {fa fb fc : Da.Env → Res D} {x y z d : D} {g3 : D → D → D → Res D} {N : Res γ} {o' : γ → D}
theorem ev3 (ha : fa ρ = .ok x) (hb : fb ρ = .ok y) (hc : fc ρ = .ok z) (hg : g3 x y z = .ok d) : f3 g3 fa fb fc ρ = .ok d := by
  unfold f3
  rw [ha]
  show (fb ρ).bind _ = _
  rw [hb]
  show (fc ρ).bind _ = _
  rw [hc]
  exact hg
theorem op_sumT {xs : List Int} : dSumT (eT D.int xs) = .ok (.int xs.sum) := by show (match intsD (xs.map D.int) with | some ns => Res.ok (D.int ns.sum) | none => .er) = _; rw [intsD_map]
end
end Kx
namespace Kx
open PySem PySem.Spec L2 Da
section
variable {α β γ δ : Type} [DecidableEq α] [DecidableEq β] [DecidableEq γ] [DecidableEq δ] {e : α → D} {f : β → D} {g : γ → D} {h : δ → D} {k l m n : Nat}
theorem pys3 {a b c : D} {ys : List PyData} (q : D.pys [a, b, c] = some ys) : ∃ x y z, ys = [x, y, z] ∧ D.py a = some x ∧ D.py b = some y ∧ D.py c = some z := by
  unfold D.pys at q
  split at q
  · rename_i x xs e1 e2
    cases q
    unfold D.pys at e2
    split at e2
    · rename_i y ys e3 e4
      cases e2
      unfold D.pys at e4
      split at e4
      · rename_i z zs e5 e6
        cases e4
        cases e6
        exact ⟨x, y, z, rfl, e1, e3, e5⟩
      · cases e4
    · cases e2
  · cases q
theorem pys4 {a b c d : D} {ys : List PyData} (q : D.pys [a, b, c, d] = some ys) : ∃ x y z w, ys = [x, y, z, w] ∧ D.py a = some x ∧ D.py b = some y ∧ D.py c = some z ∧ D.py d = some w := by
  unfold D.pys at q
  split at q
  · rename_i x xs e1 e2
    cases q
    obtain ⟨y, z, w, rfl, h2, h3, h4⟩ := pys3 e2
    exact ⟨x, y, z, w, rfl, e1, h2, h3, h4⟩
  · cases q
instance [Dat e k] [Dat f l] [Dat g m] [Dat h n] : Dat (eH4 e f g h) (max (max k l) (max m n) + 1) where
  py p := by
    obtain ⟨y1, a1, b1, c1⟩ := Dat.py (e := e) p.1
    obtain ⟨y2, a2, b2, c2⟩ := Dat.py (e := f) p.2.1
    obtain ⟨y3, a3, b3, c3⟩ := Dat.py (e := g) p.2.2.1
    obtain ⟨y4, a4, b4, c4⟩ := Dat.py (e := h) p.2.2.2
    refine ⟨.list [y1, y2, y3, y4], py_lst' ?_, ?_, ?_⟩
    · simp only [D.pys, a1, a2, a3, a4]
    · simp only [PyData.canLay0, PyData.canLayAll0, b1, b2, b3, b4, Bool.and_self]
    · simp only [PyData.depth, PyData.depthAll]; omega
  inj p q y y' u u' := by
    obtain ⟨ys, w, rfl⟩ := py_lst_of u
    obtain ⟨ys', w', rfl⟩ := py_lst_of u'
    obtain ⟨y1, y2, y3, y4, rfl, a1, a2, a3, a4⟩ := pys4 w
    obtain ⟨z1, z2, z3, z4, rfl, b1, b2, b3, b4⟩ := pys4 w'
    simp only [PyData.eqv, PyData.eqvAll, Bool.and_true]
    rw [Dat.inj p.1 q.1 _ _ a1 b1, Dat.inj p.2.1 q.2.1 _ _ a2 b2, Dat.inj p.2.2.1 q.2.2.1 _ _ a3 b3, Dat.inj p.2.2.2 q.2.2.2 _ _ a4 b4]
    obtain ⟨p1, p2, p3, p4⟩ := p
    obtain ⟨q1, q2, q3, q4⟩ := q
    by_cases h1 : p1 = q1 <;> by_cases h2 : p2 = q2 <;> by_cases h3 : p3 = q3 <;> by_cases h4 : p4 = q4 <;> simp [h1, h2, h3, h4]
instance [Dat e k] [Dat f l] [Dat g m] [Dat h n] : Dat (eP4 e f g h) (max (max k l) (max m n) + 1) where
  py p := by
    obtain ⟨y1, a1, b1, c1⟩ := Dat.py (e := e) p.1
    obtain ⟨y2, a2, b2, c2⟩ := Dat.py (e := f) p.2.1
    obtain ⟨y3, a3, b3, c3⟩ := Dat.py (e := g) p.2.2.1
    obtain ⟨y4, a4, b4, c4⟩ := Dat.py (e := h) p.2.2.2
    refine ⟨.tuple [y1, y2, y3, y4], py_tup' ?_, ?_, ?_⟩
    · simp only [D.pys, a1, a2, a3, a4]
    · simp only [PyData.canLay0, PyData.canLayAll0, b1, b2, b3, b4, Bool.and_self]
    · simp only [PyData.depth, PyData.depthAll]; omega
  inj p q y y' u u' := by
    obtain ⟨ys, w, rfl⟩ := py_tup_of u
    obtain ⟨ys', w', rfl⟩ := py_tup_of u'
    obtain ⟨y1, y2, y3, y4, rfl, a1, a2, a3, a4⟩ := pys4 w
    obtain ⟨z1, z2, z3, z4, rfl, b1, b2, b3, b4⟩ := pys4 w'
    simp only [PyData.eqv, PyData.eqvAll, Bool.and_true]
    rw [Dat.inj p.1 q.1 _ _ a1 b1, Dat.inj p.2.1 q.2.1 _ _ a2 b2, Dat.inj p.2.2.1 q.2.2.1 _ _ a3 b3, Dat.inj p.2.2.2 q.2.2.2 _ _ a4 b4]
    obtain ⟨p1, p2, p3, p4⟩ := p
    obtain ⟨q1, q2, q3, q4⟩ := q
    by_cases h1 : p1 = q1 <;> by_cases h2 : p2 = q2 <;> by_cases h3 : p3 = q3 <;> by_cases h4 : p4 = q4 <;> simp [h1, h2, h3, h4]
end
end Kx
namespace Da
open PySem PySem.Spec L2
section
variable {α β γ : Type} [DecidableEq α] [DecidableEq β] [DecidableEq γ] {e : α → D} {f : β → D} {g : γ → D} {k l m : Nat}
instance [Dat e k] [Dat f l] [Dat g m] : Dat (eP3 e f g) (max (max k l) m + 1) where
  py p := by
    obtain ⟨y1, a1, b1, c1⟩ := Dat.py (e := e) p.1
    obtain ⟨y2, a2, b2, c2⟩ := Dat.py (e := f) p.2.1
    obtain ⟨y3, a3, b3, c3⟩ := Dat.py (e := g) p.2.2
    refine ⟨.tuple [y1, y2, y3], py_tup' ?_, ?_, ?_⟩
    · simp only [D.pys, a1, a2, a3]
    · simp only [PyData.canLay0, PyData.canLayAll0, b1, b2, b3, Bool.and_self]
    · simp only [PyData.depth, PyData.depthAll]; omega
  inj p q y y' u u' := by
    obtain ⟨ys, w, rfl⟩ := py_tup_of u
    obtain ⟨ys', w', rfl⟩ := py_tup_of u'
    obtain ⟨y1, y2, y3, rfl, a1, a2, a3⟩ := Kx.pys3 w
    obtain ⟨z1, z2, z3, rfl, b1, b2, b3⟩ := Kx.pys3 w'
    simp only [PyData.eqv, PyData.eqvAll, Bool.and_true]
    rw [Dat.inj p.1 q.1 _ _ a1 b1, Dat.inj p.2.1 q.2.1 _ _ a2 b2, Dat.inj p.2.2 q.2.2 _ _ a3 b3]
    obtain ⟨p1, p2, p3⟩ := p
    obtain ⟨q1, q2, q3⟩ := q
    by_cases h1 : p1 = q1 <;> by_cases h2 : p2 = q2 <;> by_cases h3 : p3 = q3 <;> simp [h1, h2, h3]
end
end Da
namespace Da
open PySem PySem.Spec L2 PyProof.Rows
end Da
namespace Da
open PySem PySem.Spec L2
end Da
namespace Da
open PySem PySem.Spec L2
end Da
namespace Da
open PySem PySem.Spec L2 PyProof.Rows
end Da
namespace Da
open PySem PySem.Spec L2
def isO (c : Str) : D → Bool
  | .obj c' _ _ => c' == c
  | _ => false
section
variable {c : Str} {m : List D → Res D} {x y : D} {r : Res Bool}
theorem isO_obj (h : isO c x = true) : ∃ ns ds, x = .obj c ns ds := by
  cases x <;> first | (unfold isO at h; cases h; done) | skip
  rename_i c' ns ds
  exact ⟨ns, ds, by rw [show c' = c from beq_iff_eq.mp h]⟩
theorem rf_eqO (h : Rf (m [x, y]) r D.bl) (hx : isO c x = true := by rfl) (hy : isO c y = true := by rfl) : Rf (dEqO c m x y) (nx r) D.bl := by
  obtain ⟨n1, d1, rfl⟩ := isO_obj hx
  obtain ⟨n2, d2, rfl⟩ := isO_obj hy
  unfold dEqO
  dsimp only
  rw [if_pos ⟨rfl, rfl⟩]
  cases r with
  | ok b => rw [show m _ = .ok (.bl b) from h]; exact rfl
  | ex c fs => exact trivial
  | er => exact trivial
end
section
variable {α β : Type} [DecidableEq α] [DecidableEq β] {e : α → D} {f : β → D} {k l : Nat}
instance [Dat e k] [Dat f l] : Dat (eH2 e f) (max k l + 1) where
  py x := by
    obtain ⟨y, h1, h2, h3⟩ := Dat.py (e := e) x.1
    obtain ⟨z, k1, k2, k3⟩ := Dat.py (e := f) x.2
    refine ⟨.list [y, z], py_lst' (pys2 h1 k1), ?_, ?_⟩
    · simp only [PyData.canLay0, PyData.canLayAll0, h2, k2, Bool.and_self]
    · simp only [PyData.depth, PyData.depthAll]; omega
  inj x x' y y' h h' := by
    obtain ⟨ys, h1, rfl⟩ := py_lst_of h
    obtain ⟨ys', h1', rfl⟩ := py_lst_of h'
    obtain ⟨a, b, ea, eb, rfl⟩ := pys2_of h1
    obtain ⟨a', b', ea', eb', rfl⟩ := pys2_of h1'
    simp only [PyData.eqv, PyData.eqvAll, Dat.inj _ _ _ _ ea ea', Dat.inj _ _ _ _ eb eb']
    by_cases h1 : x.1 = x'.1 <;> by_cases h2 : x.2 = x'.2 <;> simp [h1, h2, Prod.ext_iff]
end
end Da
namespace Da
open PySem PySem.Spec L2
section
variable {c : Str} {m : List D → Res D} {x y : D} {γ : Type} {N : Res γ} {e' : γ → D} {r : Res Bool}
theorem rf_binO (h : Rf (m [x, y]) N e') (hx : isO c x = true := by rfl) (hy : isO c y = true := by rfl) (ho : ∀ z, ∃ cr, isO cr (e' z) = true := by intro z; exact ⟨_, rfl⟩) : Rf (dBinO c m x y) (nx N) e' := by
  obtain ⟨n1, d1, rfl⟩ := isO_obj hx
  obtain ⟨n2, d2, rfl⟩ := isO_obj hy
  unfold dBinO
  dsimp only
  rw [if_pos ⟨rfl, rfl⟩]
  cases N with
  | ok b =>
    rw [show m _ = .ok (e' b) from h]
    obtain ⟨cr, q⟩ := ho b
    obtain ⟨n3, d3, q⟩ := isO_obj q
    show Rf (match (Res.ok (e' b) : Res D) with
      | .ok (.obj cr nr dr) => .ok (.obj cr nr dr)
      | _ => .er) (.ok b) e'
    show _ = _
    rw [q]
  | ex c fs => exact trivial
  | er => exact trivial
end
end Da
namespace Kx
open PySem PySem.Spec L2 Da
def F_law_digits : FS := (fSeq (fSet 2 (fOn gLstD fA0))
    (fSeq (fSet 3 (fOn (on1 dInt) (fA (fV 0) fA0)))
    (fSeq (fIfS (fB (f2 dGe (fV 3) (f2 dPow (fC (.int 10)) (fC (.int 18))))) (fSeq (fSet 3 (f2 dSub (fV 3) (f2 dPow (fC (.int 10)) (fC (.int 18)))))
    (fSeq (fFor (fL (fV 1)) (gN 6) (fFgt [6] (fSeq (fApp 2 (f2 dMod (fOn (on1 dInt) (fA (fV 3) fA0)) (fV 6)))
    (fSet 3 (f2 dDiv (fOn (on1 dInt) (fA (fV 3) fA0)) (fV 6))))))
    (fRet (fV 2)))) fNext)
    (fSeq (fSet 4 (f2 dMod (fOn (on1 dInt) (fA (fV 3) fA0)) (fC (.int 2147483629))))
    (fSeq (fFor (fR1 (fA (fOn (on1 dLen) (fA (fV 1) fA0)) fA0)) (gN 5) (fFgt [5, 7] (fSeq (fSet 4 (f2 dMod (fOn (on1 dInt) (fA (f2 dAdd (f2 dAdd (f2 dMul (fV 4) (fC (.int 48271))) (f2 dMul (fC (.int 974711)) (fV 5))) (fC (.int 12345))) fA0)) (fC (.int 2147483647))))
    (fSeq (fSet 7 (f2 dMod (fOn (on1 dInt) (fA (f2 dMul (fV 4) (f2 dAdd (f2 dDiv (fV 4) (fC (.int 65537))) (fC (.int 3)))) fA0)) (fC (.int 2147483629))))
    (fApp 2 (f2 dMod (f2 dDiv (fV 7) (fC (.int 19))) (f2 dIx (fV 1) (fV 5))))))))
    (fRet (fV 2)))))))
def m_law_digits : List D → Res D := runF 8 .ow F_law_digits
def F_law_gcd : FS := (fSeq (fSet 2 (fOn (on1 dAbs) (fA (fOn (on1 dInt) (fA (fV 0) fA0)) fA0)))
    (fSeq (fSet 3 (fOn (on1 dAbs) (fA (fOn (on1 dInt) (fA (fV 1) fA0)) fA0)))
    (fSeq (fFor (fR1 (fA (fC (.int 1000000)) fA0)) (gN 4) (fFgt [4, 5] (fSeq (fIfS (fB (f2 dEq (fV 3) (fC (.int 0)))) fBrk fNext)
    (fSeq (fSet 5 (f2 dMod (fOn (on1 dInt) (fA (fV 2) fA0)) (fV 3)))
    (fSeq (fSet 2 (fV 3))
    (fSet 3 (fV 5)))))))
    (fRet (fV 2)))))
def m_law_gcd : List D → Res D := runF 6 .sh F_law_gcd
def F_law_fraction (rec : List D → Res D) : FS := (fSeq (fIfS (fB (f2 dLt (fV 1) (fC (.int 0)))) (fRet (fOn (chk 2 rec) (fA (f1 dNeg (fV 0)) (fA (f1 dNeg (fV 1)) fA0)))) fNext)
    (fSeq (fSet 2 (fOn (chk 2 m_law_gcd) (fA (fV 0) (fA (fV 1) fA0))))
    (fRet (fOn gTupD (fA (f2 dDiv (fV 0) (fV 2)) (fA (f2 dDiv (fV 1) (fV 2)) fA0))))))
def r_law_fraction : Nat → List D → Res D
  | 0 => fun _ => .er
  | n + 1 => runF 3 .sh (F_law_fraction (r_law_fraction n))
def m_law_fraction : List D → Res D := r_law_fraction 6
def F_law_added : FS := (fRet (fOn (chk 2 m_law_fraction) (fA (f2 dAdd (f2 dMul (f2 dIx (fV 0) (fC (.int 0))) (f2 dIx (fV 1) (fC (.int 1)))) (f2 dMul (f2 dIx (fV 1) (fC (.int 0))) (f2 dIx (fV 0) (fC (.int 1))))) (fA (f2 dMul (f2 dIx (fV 0) (fC (.int 1))) (f2 dIx (fV 1) (fC (.int 1)))) fA0))))
def m_law_added : List D → Res D := runF 2 .sh F_law_added
def F_law_sum : FS := (fSeq (fSet 1 (fOn gTupD (fA (fC (.int 0)) (fA (fC (.int 1)) fA0))))
    (fSeq (fFor (fL (fV 0)) (gN 2) (fFgt [2] (fSet 1 (fOn (chk 2 m_law_added) (fA (fV 1) (fA (fV 2) fA0))))))
    (fRet (fV 1))))
def m_law_sum : List D → Res D := runF 3 .sh F_law_sum
def F_law_cell : FS := (fSeq (fIfS (fB (f2 dLt (fV 1) (fOn (on1 dLen) (fA (fV 0) fA0)))) (fRet (f2 dIx (fV 0) (fV 1))) fNext)
    (fSeq (fSet 2 (fC (.int 17)))
    (fSeq (fFor (fL (fV 0)) (gN 3) (fFgt [3] (fSet 2 (f2 dMod (fOn (on1 dInt) (fA (f2 dAdd (f2 dMul (fV 2) (fC (.int 31))) (f2 dMod (fOn (on1 dInt) (fA (fV 3) fA0)) (fC (.int 1000003)))) fA0)) (fC (.int 1000003))))))
    (fRet (f2 dMod (fOn (on1 dInt) (fA (f2 dMul (f2 dMul (f2 dAdd (fV 2) (fC (.int 7))) (f2 dAdd (fV 1) (fC (.int 3)))) (fC (.int 69621))) fA0)) (fC (.int 2147483647)))))))
def m_law_cell : List D → Res D := runF 4 .sh F_law_cell
def F_law_whole : FS := (fRet (fBv (fAnd (fB (f1 (dIsi "int") (fV 0))) (fB (fBv (fNot (fB (f1 (dIsi "bool") (fV 0)))))))))
def m_law_whole : List D → Res D := runF 1 .sh F_law_whole
def F_law_same (rec : List D → Res D) : FS := (fSeq (fIfS (fOr (fTr (f1 (dIsi "tuple") (fV 1))) (fTr (f1 (dIsi "list") (fV 1)))) (fSeq (fIfS (fOr (fNot (fTr (f1 (dIsi "tuple") (fV 0)))) (fB (f2 dNe (fOn (on1 dLen) (fA (fV 0) fA0)) (fOn (on1 dLen) (fA (fV 1) fA0))))) (fRet (fC (.bl false))) fNext)
    (fSeq (fFor (fR1 (fA (fOn (on1 dLen) (fA (fV 1) fA0)) fA0)) (gN 2) (fFgt [2] (fIfS (fNot (fTr (fOn (chk 2 rec) (fA (f2 dIx (fV 0) (fV 2)) (fA (f2 dIx (fV 1) (fV 2)) fA0))))) (fRet (fC (.bl false))) fNext)))
    (fRet (fC (.bl true))))) fNext)
    (fSeq (fIfS (fB (f1 dIsN (fV 1))) (fRet (f1 dIsN (fV 0))) fNext)
    (fSeq (fIfS (fB (f1 (dIsB true) (fV 1))) (fRet (f1 (dIsB true) (fV 0))) fNext)
    (fSeq (fIfS (fB (f1 (dIsB false) (fV 1))) (fRet (f1 (dIsB false) (fV 0))) fNext)
    (fSeq (fIfS (fTr (f1 (dIsi "str") (fV 1))) (fRet (fBv (fAnd (fB (f1 (dIsi "str") (fV 0))) (fB (f2 dEq (fV 0) (fV 1)))))) fNext)
    (fRet (fBv (fAnd (fB (fOn (chk 1 m_law_whole) (fA (fV 0) fA0))) (fB (f2 dEq (fV 0) (fV 1)))))))))))
def r_law_same : Nat → List D → Res D
  | 0 => fun _ => .er
  | n + 1 => runF 3 .sh (F_law_same (r_law_same n))
def m_law_same : List D → Res D := r_law_same 6
def F_ratio : FS := (fSeq (fIfS (fB (f2 dEq (fV 1) (fC (.int 0)))) (fRaise "ZeroBottom" [] fA0) fNext)
    (fSeq (fSet 2 (fOn (on2 dGcd) (fA (fV 0) (fA (fV 1) fA0))))
    (fSeq (fFgt [] (fIfS (fB (f2 dLt (fV 1) (fC (.int 0)))) (fSet 2 (f1 dNeg (fV 2))) fNext))
    (fRet (fOn gTupD (fA (f2 dDiv (fV 0) (fV 2)) (fA (f2 dDiv (fV 1) (fV 2)) fA0)))))))
def m_ratio : List D → Res D := runF 3 .sh F_ratio
def F_added : FS := (fRet (fOn (chk 2 m_ratio) (fA (f2 dAdd (f2 dMul (f2 dIx (fV 0) (fC (.int 0))) (f2 dIx (fV 1) (fC (.int 1)))) (f2 dMul (f2 dIx (fV 1) (fC (.int 0))) (f2 dIx (fV 0) (fC (.int 1))))) (fA (f2 dMul (f2 dIx (fV 0) (fC (.int 1))) (f2 dIx (fV 1) (fC (.int 1)))) fA0))))
def m_added : List D → Res D := runF 2 .sh F_added
def F_fraction_sum : FS := (fSeq (fSet 1 (fOn gTupD (fA (fC (.int 0)) (fA (fC (.int 1)) fA0))))
    (fSeq (fFor (fL (fV 0)) (gN 2) (fFgt [2] (fSet 1 (fOn (chk 2 m_added) (fA (fV 1) (fA (fV 2) fA0))))))
    (fRet (fV 1))))
def m_fraction_sum : List D → Res D := runF 3 .sh F_fraction_sum
def N_law_cell_fi_i (a0 : (List Int)) (a1 : Int) : Res Int :=
  (if (decide (a1 < (a0.length : Int))) = true then (ixR a0 a1) else
  ((forR (σ := Int) (fun x1 x2 => (((((mulR x1 31).bind fun x3 => (Res.ok (x3 + (x2 % 1000003)))).bind fun x4 => (Res.ok x4)).bind fun x5 => (Res.ok (x5 % 1000003))).bind fun x6 =>
  Res.ok x6)) a0 17).bind fun x7 =>
  ((((mulR (x7 + 7) (a1 + 3)).bind fun x8 => (mulR x8 69621)).bind fun x9 => (Res.ok x9)).bind fun x10 => (Res.ok (x10 % 2147483647)))))
theorem n_law_cell_fi_i (a0 : (List Int)) (a1 : Int) : Rf (m_law_cell [(eF D.int) a0, D.int a1]) (N_law_cell_fi_i a0 a1) D.int :=
  n_runF ((t_if (evB (ev2 rfl (evOn (evA rfl rfl) op_lenF) rfl)) (t_retF (q_f2 (b_p rfl (b_p rfl op_ixF))))
  (t_nextS (t_seqp [some ((eF D.int) a0), some (D.int a1), some (D.int 17), none] (set_p rfl rfl) (t_seq fin_F (fun x7 : Int => [some ((eF D.int) a0), some (D.int a1), some (D.int x7), none]) (s_forp (ex := D.int) (s0 := 17) (it_F (e := D.int) (xs := a0) rfl) (fun x1 : Int => [some ((eF D.int) a0), some (D.int a1), some (D.int x1), none]) (fun (x1 : Int) (x2 : Int) => [some ((eF D.int) a0), some (D.int a1), some (D.int x1), some (D.int x2)]) rfl (fun _ _ => rfl) fun x1 x2 =>
  (t_seq fin_L (fun x6 : Int => [some ((eF D.int) a0), some (D.int a1), some (D.int x6), some (D.int x2)]) (s_set (e := D.int) _ (q_f2 (b_i (q_on (a_i (q_f2 (b_i (q_f2 (b_p rfl (b_p rfl op_mul))) fun x3 => (b_p (ev2 rfl rfl (op_modp (by decide))) (rf_ok rfl)))) fun x4 => (a_0 (rf_ok rfl)))) fun x5 => (b_p rfl (rf_ok (op_modp (by decide)))))) fun _ => rfl) fun x6 =>
  (t_next rfl))) fun x7 =>
  (t_end (t_retF (q_f2 (b_i (q_on (a_i (q_f2 (b_i (q_f2 (b_p rfl (b_p rfl op_mul))) fun x8 => (b_p rfl op_mul))) fun x9 => (a_0 (rf_ok rfl)))) fun x10 => (b_p rfl (rf_ok (op_modp (by decide)))))))))))))
def N_law_digits_i_li (a0 : Int) (a1 : (List Int)) : Res (List Int) :=
  (((powR 10 18).bind fun x1 => (Res.ok (decide (x1 ≤ a0)))).bind fun x26 => if x26 = true then (((powR 10 18).bind fun x2 => (Res.ok (a0 - x2))).bind fun x3 =>
  ((forR (σ := ((List Int) × Int)) (fun x4 x5 => (((modR x4.2 x5).bind fun x6 => appR x4.1 x6).bind fun x7 =>
  ((divR x4.2 x5).bind fun x8 =>
  Res.ok (x7, x8)))) a1 ([], x3)).bind fun x9 =>
  (Res.ok x9.1))) else
  (((rngR (a1.length : Int)).bind fun x24 => (forR (σ := ((List Int) × Int)) (fun x10 x11 => ((((((mulR x10.2 48271).bind fun x12 => ((mulR 974711 x11).bind fun x13 => (Res.ok (x12 + x13)))).bind fun x14 => (Res.ok (x14 + 12345))).bind fun x15 => (Res.ok x15)).bind fun x16 => (Res.ok (x16 % 2147483647))).bind fun x17 =>
  ((((mulR x17 ((x17 / 65537) + 3)).bind fun x18 => (Res.ok x18)).bind fun x19 => (Res.ok (x19 % 2147483629))).bind fun x20 =>
  ((((ixR a1 x11).bind fun x21 => (modR (x20 / 19) x21)).bind fun x22 => appR x10.1 x22).bind fun x23 =>
  Res.ok (x23, x17))))) x24 ([], (a0 % 2147483629)))).bind fun x25 =>
  (Res.ok x25.1)))
theorem n_law_digits_i_li (a0 : Int) (a1 : (List Int)) : Rf (m_law_digits [D.int a0, (eL D.int) a1]) (N_law_digits_i_li a0 a1) (eL D.int) :=
  n_runF ((t_seqp [some (D.int a0), some ((eL D.int) a1), some ((eL D.int) []), none, none, none, none, none] (set_p rfl rfl) (t_seqp [some (D.int a0), some ((eL D.int) a1), some ((eL D.int) []), some (D.int a0), none, none, none, none] (set_p rfl rfl) (t_ifI fin_F (q_B (b_iB (q_f2 (b_p rfl (b_i (q_f2 (b_p rfl (b_p rfl op_pow))) fun x1 => (rf_ok rfl)))))) (t_assoc (t_seq fin_F (fun x3 : Int => [some (D.int a0), some ((eL D.int) a1), some ((eL D.int) []), some (D.int x3), none, none, none, none]) (s_set (e := D.int) _ (q_f2 (b_p rfl (b_i (q_f2 (b_p rfl (b_p rfl op_pow))) fun x2 => (rf_ok rfl)))) fun _ => rfl) fun x3 =>
  (t_assoc (t_seq fin_F (fun x9 : ((List Int) × Int) => [some (D.int a0), some ((eL D.int) a1), some ((eL D.int) x9.1), some (D.int x9.2), none, none, none, none]) (s_forp (ex := D.int) (s0 := ([], x3)) (it_L (e := D.int) (xs := a1) rfl) (fun x4 : ((List Int) × Int) => [some (D.int a0), some ((eL D.int) a1), some ((eL D.int) x4.1), some (D.int x4.2), none, none, none, none]) (fun (x4 : ((List Int) × Int)) (x5 : Int) => [some (D.int a0), some ((eL D.int) a1), some ((eL D.int) x4.1), some (D.int x4.2), none, none, some (D.int x5), none]) rfl (fun _ _ => rfl) fun x4 x5 =>
  (t_assoc (t_seq fin_L (fun x7 : (List Int) => [some (D.int a0), some ((eL D.int) a1), some ((eL D.int) x7), some (D.int x4.2), none, none, some (D.int x5), none]) (s_appI (e := D.int) (xs := x4.1) (fun ys : (List Int) => [some (D.int a0), some ((eL D.int) a1), some ((eL D.int) ys), some (D.int x4.2), none, none, some (D.int x5), none]) rfl (q_f2 (b_p rfl (b_p rfl op_mod))) fun _ => rfl) fun x7 =>
  (t_seq fin_L (fun x8 : Int => [some (D.int a0), some ((eL D.int) a1), some ((eL D.int) x7), some (D.int x8), none, none, some (D.int x5), none]) (s_set (e := D.int) _ (q_f2 (b_p rfl (b_p rfl op_div))) fun _ => rfl) fun x8 =>
  (t_next rfl))))) fun x9 =>
  (t_retF (rf_ok (e := (eL D.int)) rfl))))))
  (t_nextS (t_seqp [some (D.int a0), some ((eL D.int) a1), some ((eL D.int) []), some (D.int a0), some (D.int (a0 % 2147483629)), none, none, none] (set_p (ev2 rfl rfl (op_modp (by decide))) rfl) (t_seq fin_F (fun x25 : ((List Int) × Int) => [some (D.int a0), some ((eL D.int) a1), some ((eL D.int) x25.1), some (D.int a0), some (D.int x25.2), none, none, none]) (s_for (ex := D.int) (s0 := ([], (a0 % 2147483629))) (q_R1 (a_p (evOn (evA rfl rfl) op_lenL) (a_0 k_R1))) (fun x10 : ((List Int) × Int) => [some (D.int a0), some ((eL D.int) a1), some ((eL D.int) x10.1), some (D.int a0), some (D.int x10.2), none, none, none]) (fun (x10 : ((List Int) × Int)) (x11 : Int) => [some (D.int a0), some ((eL D.int) a1), some ((eL D.int) x10.1), some (D.int a0), some (D.int x10.2), some (D.int x11), none, none]) rfl (fun _ _ => rfl) fun x10 x11 =>
  (t_assoc (t_seq fin_L (fun x17 : Int => [some (D.int a0), some ((eL D.int) a1), some ((eL D.int) x10.1), some (D.int a0), some (D.int x17), some (D.int x11), none, none]) (s_set (e := D.int) _ (q_f2 (b_i (q_on (a_i (q_f2 (b_i (q_f2 (b_i (q_f2 (b_p rfl (b_p rfl op_mul))) fun x12 => (b_i (q_f2 (b_p rfl (b_p rfl op_mul))) fun x13 => (rf_ok rfl)))) fun x14 => (b_p rfl (rf_ok rfl)))) fun x15 => (a_0 (rf_ok rfl)))) fun x16 => (b_p rfl (rf_ok (op_modp (by decide)))))) fun _ => rfl) fun x17 =>
  (t_assoc (t_seq fin_L (fun x20 : Int => [some (D.int a0), some ((eL D.int) a1), some ((eL D.int) x10.1), some (D.int a0), some (D.int x17), some (D.int x11), none, some (D.int x20)]) (s_set (e := D.int) _ (q_f2 (b_i (q_on (a_i (q_f2 (b_p rfl (b_p (ev2 (ev2 rfl rfl (op_divp (by decide) (by decide))) rfl rfl) op_mul))) fun x18 => (a_0 (rf_ok rfl)))) fun x19 => (b_p rfl (rf_ok (op_modp (by decide)))))) fun _ => rfl) fun x20 =>
  (t_seq fin_L (fun x23 : (List Int) => [some (D.int a0), some ((eL D.int) a1), some ((eL D.int) x23), some (D.int a0), some (D.int x17), some (D.int x11), none, some (D.int x20)]) (s_appI (e := D.int) (xs := x10.1) (fun ys : (List Int) => [some (D.int a0), some ((eL D.int) a1), some ((eL D.int) ys), some (D.int a0), some (D.int x17), some (D.int x11), none, some (D.int x20)]) rfl (q_f2 (b_p (ev2 rfl rfl (op_divp (by decide) (by decide))) (b_i (q_f2 (b_p rfl (b_p rfl op_ixL))) fun x21 => op_mod))) fun _ => rfl) fun x23 =>
  (t_next rfl))))))) fun x25 =>
  (t_end (t_retF (rf_ok (e := (eL D.int)) rfl))))))))))
def N_law_gcd_i_i (a0 : Int) (a1 : Int) : Res Int :=
  (((rngR 1000000).bind fun x4 => ((forC (σ := (Int × Int)) (β := Unit) (fun x1 x2 => (if (decide (x1.2 = 0)) = true then Res.ok (.out (x1.1, x1.2)) else
  ((modR x1.1 x1.2).bind fun x3 =>
  Res.ok (.go (x1.2, x3))))) x4 ((if a0 < 0 then -a0 else a0), (if a1 < 0 then -a1 else a1))).bind (ctlS (β := Unit)))).bind fun x5 =>
  (Res.ok x5.1))
theorem n_law_gcd_i_i (a0 : Int) (a1 : Int) : Rf (m_law_gcd [D.int a0, D.int a1]) (N_law_gcd_i_i a0 a1) D.int :=
  n_runF ((t_seqp [some (D.int a0), some (D.int a1), some (D.int (if a0 < 0 then -a0 else a0)), none, none, none] (set_p rfl rfl) (t_seqp [some (D.int a0), some (D.int a1), some (D.int (if a0 < 0 then -a0 else a0)), some (D.int (if a1 < 0 then -a1 else a1)), none, none] (set_p rfl rfl) (t_seq fin_F (fun x5 : (Int × Int) => [some (D.int a0), some (D.int a1), some (D.int x5.1), some (D.int x5.2), none, none]) (s_forB (ex := D.int) (s0 := ((if a0 < 0 then -a0 else a0), (if a1 < 0 then -a1 else a1))) (q_R1 (a_p rfl (a_0 k_R1))) (fun x1 : (Int × Int) => [some (D.int a0), some (D.int a1), some (D.int x1.1), some (D.int x1.2), none, none]) (fun (x1 : (Int × Int)) (x2 : Int) => [some (D.int a0), some (D.int a1), some (D.int x1.1), some (D.int x1.2), some (D.int x2), none]) rfl (fun _ _ => rfl) fun x1 x2 =>
  (t_assoc (t_if (evB (ev2 rfl rfl (op_eq (e := D.int) (x := x1.2) (x' := 0)))) (t_brk rfl)
  (t_nextS (t_assoc (t_seq fin_L (fun x3 : Int => [some (D.int a0), some (D.int a1), some (D.int x1.1), some (D.int x1.2), some (D.int x2), some (D.int x3)]) (s_set (e := D.int) _ (q_f2 (b_p rfl (b_p rfl op_mod))) fun _ => rfl) fun x3 =>
  (t_assoc (t_seqp [some (D.int a0), some (D.int a1), some (D.int x1.2), some (D.int x1.2), some (D.int x2), some (D.int x3)] (set_p rfl rfl) (t_seqp [some (D.int a0), some (D.int a1), some (D.int x1.2), some (D.int x3), some (D.int x2), some (D.int x3)] (set_p rfl rfl) (t_next rfl)))))))))) fun x5 =>
  (t_end (t_retF (rf_ok (e := D.int) rfl)))))))
def Nr_law_fraction_i_i : Nat → Int → Int → Res (Int × Int)
  | 0 => fun _ _ => .er
  | n + 1 => fun a0 a1 =>
  (if (decide (a1 < 0)) = true then (Nr_law_fraction_i_i n (-a0) (-a1)) else
  ((N_law_gcd_i_i a0 a1).bind fun x1 =>
  ((divR a0 x1).bind fun x2 => ((divR a1 x1).bind fun x3 => (Res.ok (x2, x3))))))
theorem nr_law_fraction_i_i : ∀ (n : Nat) (a0 : Int) (a1 : Int), Rf (r_law_fraction n [D.int a0, D.int a1]) (Nr_law_fraction_i_i n a0 a1) (eP2 D.int D.int)
  | 0, _, _ => trivial
  | n + 1, a0, a1 => n_runF ((t_if rfl (t_retF (q_on (a_p rfl (a_p rfl (a_0 (rf_chk (nr_law_fraction_i_i n (-a0) (-a1)) rfl))))))
  (t_nextS (t_seq fin_F (fun x1 : Int => [some (D.int a0), some (D.int a1), some (D.int x1)]) (s_set (e := D.int) _ (q_on (a_p rfl (a_p rfl (a_0 (rf_chk (n_law_gcd_i_i a0 a1) rfl))))) fun _ => rfl) fun x1 =>
  (t_end (t_retF (q_on (a_i (q_f2 (b_p rfl (b_p rfl op_div))) fun x2 => (a_i (q_f2 (b_p rfl (b_p rfl op_div))) fun x3 => (a_0 (rf_ok rfl)))))))))))
def N_law_fraction_i_i (a0 : Int) (a1 : Int) : Res (Int × Int) := Nr_law_fraction_i_i 6 a0 a1
theorem n_law_fraction_i_i (a0 : Int) (a1 : Int) : Rf (m_law_fraction [D.int a0, D.int a1]) (N_law_fraction_i_i a0 a1) (eP2 D.int D.int) := nr_law_fraction_i_i 6 a0 a1
def N_law_added_piiq_piiq (a0 : (Int × Int)) (a1 : (Int × Int)) : Res (Int × Int) :=
  (((mulR a0.1 a1.2).bind fun x1 => ((mulR a1.1 a0.2).bind fun x2 => (Res.ok (x1 + x2)))).bind fun x3 => ((mulR a0.2 a1.2).bind fun x4 => (N_law_fraction_i_i x3 x4)))
theorem n_law_added_piiq_piiq (a0 : (Int × Int)) (a1 : (Int × Int)) : Rf (m_law_added [(eP2 D.int D.int) a0, (eP2 D.int D.int) a1]) (N_law_added_piiq_piiq a0 a1) (eP2 D.int D.int) :=
  n_runF ((t_end (t_retF (q_on (a_i (q_f2 (b_i (q_f2 (b_p rfl (b_p rfl op_mul))) fun x1 => (b_i (q_f2 (b_p rfl (b_p rfl op_mul))) fun x2 => (rf_ok rfl)))) fun x3 => (a_i (q_f2 (b_p rfl (b_p rfl op_mul))) fun x4 => (a_0 (rf_chk (n_law_fraction_i_i x3 x4) rfl))))))))
def N_law_sum_lpiiq (a0 : (List (Int × Int))) : Res (Int × Int) :=
  ((forR (σ := (Int × Int)) (fun x1 x2 => ((N_law_added_piiq_piiq x1 x2).bind fun x3 =>
  Res.ok x3)) a0 (0, 1)).bind fun x4 =>
  (Res.ok x4))
theorem n_law_sum_lpiiq (a0 : (List (Int × Int))) : Rf (m_law_sum [(eL (eP2 D.int D.int)) a0]) (N_law_sum_lpiiq a0) (eP2 D.int D.int) :=
  n_runF ((t_seqp [some ((eL (eP2 D.int D.int)) a0), some ((eP2 D.int D.int) (0, 1)), none] (set_p rfl rfl) (t_seq fin_F (fun x4 : (Int × Int) => [some ((eL (eP2 D.int D.int)) a0), some ((eP2 D.int D.int) x4), none]) (s_forp (ex := (eP2 D.int D.int)) (s0 := (0, 1)) (it_L (e := (eP2 D.int D.int)) (xs := a0) rfl) (fun x1 : (Int × Int) => [some ((eL (eP2 D.int D.int)) a0), some ((eP2 D.int D.int) x1), none]) (fun (x1 : (Int × Int)) (x2 : (Int × Int)) => [some ((eL (eP2 D.int D.int)) a0), some ((eP2 D.int D.int) x1), some ((eP2 D.int D.int) x2)]) rfl (fun _ _ => rfl) fun x1 x2 =>
  (t_seq fin_L (fun x3 : (Int × Int) => [some ((eL (eP2 D.int D.int)) a0), some ((eP2 D.int D.int) x3), some ((eP2 D.int D.int) x2)]) (s_set (e := (eP2 D.int D.int)) _ (q_on (a_p rfl (a_p rfl (a_0 (rf_chk (n_law_added_piiq_piiq x1 x2) rfl))))) fun _ => rfl) fun x3 =>
  (t_next rfl))) fun x4 =>
  (t_end (t_retF (rf_ok (e := (eP2 D.int D.int)) rfl))))))
def N_law_whole_i (a0 : Int) : Res Bool :=
  (Res.ok true)
theorem n_law_whole_i (a0 : Int) : Rf (m_law_whole [D.int a0]) (N_law_whole_i a0) D.bl :=
  n_runF ((t_end (t_retF (rf_ok (e := D.bl) (evBv (evAndT (evB (ev1 rfl (isi_of isTy_int_int))) (evB (evBv (evNot (evB (ev1 rfl (isi_of isTy_bool_int))))))))))))
def N_law_same_i_i (a0 : Int) (a1 : Int) : Res Bool :=
  (Res.ok (decide (a0 = a1)))
theorem nr_law_same_i_i (n : Nat) (a0 : Int) (a1 : Int) : Rf (r_law_same (n + 1) [D.int a0, D.int a1]) (N_law_same_i_i a0 a1) D.bl :=
  n_runF ((t_ifF (evOrF (evTr (ev1 rfl (isi_of isTy_tuple_int)) rfl) (evTr (ev1 rfl (isi_of isTy_list_int)) rfl)) (t_nextS (t_ifF rfl (t_nextS (t_ifF rfl (t_nextS (t_ifF rfl (t_nextS (t_ifF (evTr (ev1 rfl (isi_of isTy_str_int)) rfl) (t_nextS (t_end (t_retF (rf_ok (e := D.bl) (evBv (evAndT (evB (evOn (evA rfl rfl) (ev_chk (n_law_whole_i a0) rfl))) (evB (ev2 rfl rfl (op_eq (e := D.int) (x := a0) (x' := a1))))))))))))))))))))
def N_law_same_piiq_piiq (a0 : (Int × Int)) (a1 : (Int × Int)) : Res Bool :=
  (if (!decide (2 = 2)) = true then (Res.ok false) else
  ((rngR 2).bind fun x8 => ((forC (σ := Unit) (β := Bool) (fun x1 x2 => ((((ixR [a0.1, a0.2] x2).bind fun x3 => ((ixR [a1.1, a1.2] x2).bind fun x4 => (N_law_same_i_i x3 x4))).bind fun x5 => Res.ok (!x5)).bind fun x6 => if x6 = true then Res.ok (.ret false) else
  Res.ok (.go ()))) x8 ()).bind (ctlK (fun x7 => (Res.ok true)) (fun v => v)))))
theorem nr_law_same_piiq_piiq (n : Nat) (a0 : (Int × Int)) (a1 : (Int × Int)) : Rf (r_law_same (n + 2) [(eP2 D.int D.int) a0, (eP2 D.int D.int) a1]) (N_law_same_piiq_piiq a0 a1) D.bl :=
  n_runF ((t_ifT (evOrT (evTr (ev1 rfl (isi_of isTy_tuple_tup)) rfl)) (t_assoc (t_if (evOrF (evNot (evTr (ev1 rfl (isi_of isTy_tuple_tup)) rfl)) (evB (ev2 rfl rfl (op_ne (e := D.int) (x := 2) (x' := 2))))) (t_retF (rf_ok (e := D.bl) rfl))
  (t_nextS (t_assoc (t_forC (ex := D.int) (e := D.bl) (s0 := ()) (rk := (fun v => v)) fin_F (q_R1 (a_p rfl (a_0 k_R1))) (fun x1 : Unit => [some ((eP2 D.int D.int) a0), some ((eP2 D.int D.int) a1), none]) (fun (x1 : Unit) (x2 : Int) => [some ((eP2 D.int D.int) a0), some ((eP2 D.int D.int) a1), some (D.int x2)]) rfl (fun _ _ => rfl) (fun x1 x2 =>
  (t_ifI fin_L (q_Not (b_i (q_Tr (b_iT (q_on (a_i (q_f2 (b_p rfl (b_p rfl (op_ixT (e := D.int) (xs := [a0.1, a0.2]))))) fun x3 => (a_i (q_f2 (b_p rfl (b_p rfl (op_ixT (e := D.int) (xs := [a1.1, a1.2]))))) fun x4 => (a_0 (rf_chk (nr_law_same_i_i (n + 0) x3 x4) rfl))))))) fun _ => rf_ok rfl)) (t_retp rfl rfl)
  (t_nextS (t_next rfl)))) (fun x7 =>
  (t_retF (rf_ok (e := D.bl) rfl))) fun _ => rfl)))))))
theorem n_law_same_piiq_piiq (a0 : (Int × Int)) (a1 : (Int × Int)) : Rf (m_law_same [(eP2 D.int D.int) a0, (eP2 D.int D.int) a1]) (N_law_same_piiq_piiq a0 a1) D.bl := nr_law_same_piiq_piiq 4 a0 a1
def N_ratio_i_i (a0 : Int) (a1 : Int) : Res (Int × Int) :=
  (if (decide (a1 = 0)) = true then (Res.ex "ZeroBottom" []) else
  ((Res.ok ((Nat.gcd a0.natAbs a1.natAbs : Nat) : Int)).bind fun x1 =>
  ((if (decide (a1 < 0)) = true then Res.ok (-x1) else
  Res.ok x1).bind fun x2 =>
  ((divR a0 x2).bind fun x3 => ((divR a1 x2).bind fun x4 => (Res.ok (x3, x4)))))))
theorem n_ratio_i_i (a0 : Int) (a1 : Int) : Rf (m_ratio [D.int a0, D.int a1]) (N_ratio_i_i a0 a1) (eP2 D.int D.int) :=
  n_runF ((t_if (evB (ev2 rfl rfl (op_eq (e := D.int) (x := a1) (x' := 0)))) (t_raise fin_F (a_0 (rf_ex rfl)))
  (t_nextS (t_seq fin_F (fun x1 : Int => [some (D.int a0), some (D.int a1), some (D.int x1)]) (s_setp (e := D.int) _ rfl rfl) fun x1 =>
  (t_seq fin_F (fun x2 : Int => [some (D.int a0), some (D.int a1), some (D.int x2)]) (s_if (o' := (fun s : Int => Fl.nx [some (D.int a0), some (D.int a1), some (D.int s)])) (t_if rfl (t_seqp [some (D.int a0), some (D.int a1), some (D.int (-x1))] (set_p rfl rfl) (t_next rfl))
  (t_nextS (t_next rfl)))) fun x2 =>
  (t_end (t_retF (q_on (a_i (q_f2 (b_p rfl (b_p rfl op_div))) fun x3 => (a_i (q_f2 (b_p rfl (b_p rfl op_div))) fun x4 => (a_0 (rf_ok rfl))))))))))))
def N_added_piiq_piiq (a0 : (Int × Int)) (a1 : (Int × Int)) : Res (Int × Int) :=
  (((mulR a0.1 a1.2).bind fun x1 => ((mulR a1.1 a0.2).bind fun x2 => (Res.ok (x1 + x2)))).bind fun x3 => ((mulR a0.2 a1.2).bind fun x4 => (N_ratio_i_i x3 x4)))
theorem n_added_piiq_piiq (a0 : (Int × Int)) (a1 : (Int × Int)) : Rf (m_added [(eP2 D.int D.int) a0, (eP2 D.int D.int) a1]) (N_added_piiq_piiq a0 a1) (eP2 D.int D.int) :=
  n_runF ((t_end (t_retF (q_on (a_i (q_f2 (b_i (q_f2 (b_p rfl (b_p rfl op_mul))) fun x1 => (b_i (q_f2 (b_p rfl (b_p rfl op_mul))) fun x2 => (rf_ok rfl)))) fun x3 => (a_i (q_f2 (b_p rfl (b_p rfl op_mul))) fun x4 => (a_0 (rf_chk (n_ratio_i_i x3 x4) rfl))))))))
def N_fraction_sum_lpiiq (a0 : (List (Int × Int))) : Res (Int × Int) :=
  ((forR (σ := (Int × Int)) (fun x1 x2 => ((N_added_piiq_piiq x1 x2).bind fun x3 =>
  Res.ok x3)) a0 (0, 1)).bind fun x4 =>
  (Res.ok x4))
theorem n_fraction_sum_lpiiq (a0 : (List (Int × Int))) : Rf (m_fraction_sum [(eL (eP2 D.int D.int)) a0]) (N_fraction_sum_lpiiq a0) (eP2 D.int D.int) :=
  n_runF ((t_seqp [some ((eL (eP2 D.int D.int)) a0), some ((eP2 D.int D.int) (0, 1)), none] (set_p rfl rfl) (t_seq fin_F (fun x4 : (Int × Int) => [some ((eL (eP2 D.int D.int)) a0), some ((eP2 D.int D.int) x4), none]) (s_forp (ex := (eP2 D.int D.int)) (s0 := (0, 1)) (it_L (e := (eP2 D.int D.int)) (xs := a0) rfl) (fun x1 : (Int × Int) => [some ((eL (eP2 D.int D.int)) a0), some ((eP2 D.int D.int) x1), none]) (fun (x1 : (Int × Int)) (x2 : (Int × Int)) => [some ((eL (eP2 D.int D.int)) a0), some ((eP2 D.int D.int) x1), some ((eP2 D.int D.int) x2)]) rfl (fun _ _ => rfl) fun x1 x2 =>
  (t_seq fin_L (fun x3 : (Int × Int) => [some ((eL (eP2 D.int D.int)) a0), some ((eP2 D.int D.int) x3), some ((eP2 D.int D.int) x2)]) (s_set (e := (eP2 D.int D.int)) _ (q_on (a_p rfl (a_p rfl (a_0 (rf_chk (n_added_piiq_piiq x1 x2) rfl))))) fun _ => rfl) fun x3 =>
  (t_next rfl))) fun x4 =>
  (t_end (t_retF (rf_ok (e := (eP2 D.int D.int)) rfl))))))
def N_fraction_sum_tpiiq (a0 : (List (Int × Int))) : Res (Int × Int) :=
  ((forR (σ := (Int × Int)) (fun x1 x2 => ((N_added_piiq_piiq x1 x2).bind fun x3 =>
  Res.ok x3)) a0 (0, 1)).bind fun x4 =>
  (Res.ok x4))
theorem n_fraction_sum_tpiiq (a0 : (List (Int × Int))) : Rf (m_fraction_sum [(eT (eP2 D.int D.int)) a0]) (N_fraction_sum_tpiiq a0) (eP2 D.int D.int) :=
  n_runF ((t_seqp [some ((eT (eP2 D.int D.int)) a0), some ((eP2 D.int D.int) (0, 1)), none] (set_p rfl rfl) (t_seq fin_F (fun x4 : (Int × Int) => [some ((eT (eP2 D.int D.int)) a0), some ((eP2 D.int D.int) x4), none]) (s_forp (ex := (eP2 D.int D.int)) (s0 := (0, 1)) (it_T (e := (eP2 D.int D.int)) (xs := a0) rfl) (fun x1 : (Int × Int) => [some ((eT (eP2 D.int D.int)) a0), some ((eP2 D.int D.int) x1), none]) (fun (x1 : (Int × Int)) (x2 : (Int × Int)) => [some ((eT (eP2 D.int D.int)) a0), some ((eP2 D.int D.int) x1), some ((eP2 D.int D.int) x2)]) rfl (fun _ _ => rfl) fun x1 x2 =>
  (t_seq fin_L (fun x3 : (Int × Int) => [some ((eT (eP2 D.int D.int)) a0), some ((eP2 D.int D.int) x3), some ((eP2 D.int D.int) x2)]) (s_set (e := (eP2 D.int D.int)) _ (q_on (a_p rfl (a_p rfl (a_0 (rf_chk (n_added_piiq_piiq x1 x2) rfl))))) fun _ => rfl) fun x3 =>
  (t_next rfl))) fun x4 =>
  (t_end (t_retF (rf_ok (e := (eP2 D.int D.int)) rfl))))))
end Kx
namespace Kx
open PySem PySem.Spec L2 Da
def F_law_day : FS := (fSeq (fSet 2 (fLc [4] (fR1 (fA (fV 0) fA0)) (gN 4) fYes (fV 4)))
    (fSeq (fSet 3 (fOn gLstD fA0))
    (fSeq (fFor (fR1 (fA (fV 0) fA0)) (gN 4) (fFgt [4] (fAppX 3 (fPop 2 (f2 dMod (fOn (on1 dInt) (fA (f2 dIx (fV 1) (fV 4)) fA0)) (fSc (fOn (on1 dLen) (fA (fV 2) fA0))))))))
    (fRet (fOn (on1 dTuple) (fA (fV 3) fA0))))))
def m_law_day : List D → Res D := runF 5 .sh F_law_day
def N_law_day_i_li (a0 : Int) (a1 : (List Int)) : Res (List Int) :=
  (((rngR a0).bind fun x2 => lcR x2 (fun x1 => Res.ok true) (fun x1 => (Res.ok x1))).bind fun x3 =>
  (((rngR a0).bind fun x10 => (forR (σ := ((List Int) × (List Int))) (fun x4 x5 => (((nx ((nx (((ixR a1 x5).bind fun x6 => (Res.ok x6)).bind fun x7 => (modR x7 (x4.1.length : Int)))).bind fun x8 => popR x4.1 x8)).bind fun v => (appR x4.2 v.1).bind fun ys => Res.ok (ys, v.2)).bind fun x9 =>
  Res.ok (x9.2, x9.1))) x10 (x3, []))).bind fun x11 =>
  (Res.ok x11.2)))
theorem n_law_day_i_li (a0 : Int) (a1 : (List Int)) : Rf (m_law_day [D.int a0, (eL D.int) a1]) (N_law_day_i_li a0 a1) (eT D.int) :=
  n_runF ((t_seq fin_F (fun x3 : (List Int) => [some (D.int a0), some ((eL D.int) a1), some ((eL D.int) x3), none, none]) (s_set (e := (eL D.int)) _ (rf_lc (q_R1 (a_p rfl (a_0 k_R1))) (fun x1 : Int => [some (D.int a0), some ((eL D.int) a1), none, none, some (D.int x1)]) (fun _ => rfl) (fun x1 => (rf_ok (v := true) rfl)) (fun x1 => (rf_ok (e := D.int) rfl))) fun _ => rfl) fun x3 =>
  (t_seqp [some (D.int a0), some ((eL D.int) a1), some ((eL D.int) x3), some ((eL D.int) []), none] (set_p rfl rfl) (t_seq fin_F (fun x11 : ((List Int) × (List Int)) => [some (D.int a0), some ((eL D.int) a1), some ((eL D.int) x11.1), some ((eL D.int) x11.2), none]) (s_for (ex := D.int) (s0 := (x3, [])) (q_R1 (a_p rfl (a_0 k_R1))) (fun x4 : ((List Int) × (List Int)) => [some (D.int a0), some ((eL D.int) a1), some ((eL D.int) x4.1), some ((eL D.int) x4.2), none]) (fun (x4 : ((List Int) × (List Int))) (x5 : Int) => [some (D.int a0), some ((eL D.int) a1), some ((eL D.int) x4.1), some ((eL D.int) x4.2), some (D.int x5)]) rfl (fun _ _ => rfl) fun x4 x5 =>
  (t_seq fin_L (fun x9 : ((List Int) × (List Int)) => [some (D.int a0), some ((eL D.int) a1), some ((eL D.int) x9.2), some ((eL D.int) x9.1), some (D.int x5)]) (s_appX (e := D.int) (xs := x4.2) (fun v : ((List Int) × (List Int)) => [some (D.int a0), some ((eL D.int) a1), some ((eL D.int) v.2), some ((eL D.int) v.1), some (D.int x5)]) rfl (x_popI (e := D.int) (xs := x4.1) (fun ys : (List Int) => [some (D.int a0), some ((eL D.int) a1), some ((eL D.int) ys), some ((eL D.int) x4.2), some (D.int x5)]) rfl (q_f2 (b_i (q_on (a_i (q_f2 (b_p rfl (b_p rfl op_ixL))) fun x6 => (a_0 (rf_ok rfl)))) fun x7 => (b_p (evSc (evOn (evA rfl rfl) op_lenL) rfl) op_mod))) fun _ => rfl) (fun _ => rfl) fun _ _ => rfl) fun x9 =>
  (t_next rfl))) fun x11 =>
  (t_end (t_retF (rf_ok (e := (eT D.int)) rfl)))))))
end Kx
namespace Kx
open PySem PySem.Spec L2 Da
def F_is_number : FS := (fRet (fBv (fAnd (fB (f1 (dIsi "int") (fV 0))) (fB (fBv (fNot (fB (f1 (dIsi "bool") (fV 0)))))))))
def m_is_number : List D → Res D := runF 1 .sh F_is_number
def F_as_fraction : FS := (fSeq (fIfS (fTr (fOn (chk 1 m_is_number) (fA (fV 0) fA0))) (fRet (fOn gTupD (fA (fV 0) (fA (fC (.int 1)) fA0)))) fNext)
    (fRet (fV 0)))
def m_as_fraction : List D → Res D := runF 1 .sh F_as_fraction
def F_checked_rows : FS := (fSeq (fFor (fEnum (fA (fV 0) fA0)) (gT (gsC (gN 1) (gsC (gN 2) gs0))) (fFgt [1, 2] (fIfS (fB (f2 dNe (fOn (on1 dLen) (fA (fV 2) fA0)) (fOn (on1 dLen) (fA (fV 0) fA0)))) (fRaise "BadTable" ["index"] (fA (fV 1) fA0)) fNext)))
    (fRet (fOn (on1 dTuple) (fA (fLc [2] (fL (fV 0)) (gN 2) fYes (fOn (on1 dTuple) (fA (fLc [3] (fL (fV 2)) (gN 3) fYes (fOn (chk 1 m_as_fraction) (fA (fV 3) fA0))) fA0))) fA0))))
def m_checked_rows : List D → Res D := runF 4 .sh F_checked_rows
def F_frozen (rec : List D → Res D) : FS := (fSeq (fIfS (fTr (f1 (dIsi2 "list" "tuple") (fV 0))) (fRet (fOn (on1 dTuple) (fA (fLc [1] (fL (fV 0)) (gN 1) fYes (fOn (chk 1 rec) (fA (fV 1) fA0))) fA0))) fNext)
    (fRet (fV 0)))
def r_frozen : Nat → List D → Res D
  | 0 => fun _ => .er
  | n + 1 => runF 2 .sh (F_frozen (r_frozen n))
def m_frozen : List D → Res D := r_frozen 6
def F_Table_init : FS := (fSeq (fFld "Table" "rows" 0 (fOn (chk 1 m_checked_rows) (fA (fOn (chk 1 m_frozen) (fA (fV 1) fA0)) fA0)))
    (fFld "Table" "size" 0 (fOn (on1 dLen) (fA (f1 (dFld "Table" "rows") (fV 0)) fA0))))
def m_Table_init : List D → Res D := runI 2 "Table" F_Table_init
def F_line_sums : FS := (fRet (fOn (on1 dTuple) (fA (fLc [1] (fL (fV 0)) (gN 1) fYes (fOn (chk 1 m_fraction_sum) (fA (fV 1) fA0))) fA0)))
def m_line_sums : List D → Res D := runF 2 .sh F_line_sums
def F_Table_mean_day : FS := (fSeq (fSet 1 (fOn (chk 1 m_fraction_sum) (fA (fOn (chk 1 m_line_sums) (fA (f1 (dFld "Table" "rows") (fV 0)) fA0)) fA0)))
    (fRet (fOn (chk 2 m_ratio) (fA (f2 dIx (fV 1) (fC (.int 0))) (fA (f2 dMul (f2 dIx (fV 1) (fC (.int 1))) (fOn (on1 dLen) (fA (f1 (dFld "Table" "rows") (fV 0)) fA0))) fA0)))))
def m_Table_mean_day : List D → Res D := runF 2 .sh F_Table_mean_day
def F_day_sum : FS := (fRet (fOn (chk 1 m_fraction_sum) (fA (fLc [2, 3] (fEnum (fA (fV 1) fA0)) (gT (gsC (gN 2) (gsC (gN 3) gs0))) fYes (f2 dIx (f2 dIx (f1 (dFld "Table" "rows") (fV 0)) (fV 2)) (fV 3))) fA0)))
def m_day_sum : List D → Res D := runF 4 .sh F_day_sum
def N_frozen_i (a0 : Int) : Res Int :=
  (Res.ok a0)
theorem nr_frozen_i (n : Nat) (a0 : Int) : Rf (r_frozen (n + 1) [D.int a0]) (N_frozen_i a0) D.int :=
  n_runF ((t_ifF (evTr (ev1 rfl (isi2_b isTy_list_int isTy_tuple_int)) rfl) (t_nextS (t_end (t_retF (rf_ok (e := D.int) rfl))))))
def N_frozen_piiq (a0 : (Int × Int)) : Res (Int × Int) :=
  (((nx (N_frozen_i a0.1)).bind fun x1 => (nx (N_frozen_i a0.2)).bind fun x2 => Res.ok (x1, x2)).bind fun x3 => (Res.ok x3))
theorem nr_frozen_piiq (n : Nat) (a0 : (Int × Int)) : Rf (r_frozen (n + 2) [(eP2 D.int D.int) a0]) (N_frozen_piiq a0) (eP2 D.int D.int) :=
  n_runF ((t_ifT (evTr (ev1 rfl (isi2_b isTy_list_tup isTy_tuple_tup)) rfl) (t_retF (q_on (a_i (rf_lcN2 (it_row2 rfl) rfl rfl (q_on (a_p rfl (a_0 (rf_chk (nr_frozen_i (n + 0) a0.1) rfl)))) (q_on (a_p rfl (a_0 (rf_chk (nr_frozen_i (n + 0) a0.2) rfl))))) fun x3 => (a_0 (rf_ok rfl)))))))
theorem n_frozen_piiq (a0 : (Int × Int)) : Rf (m_frozen [(eP2 D.int D.int) a0]) (N_frozen_piiq a0) (eP2 D.int D.int) := nr_frozen_piiq 4 a0
def N_frozen_lpiiq (a0 : (List (Int × Int))) : Res (List (Int × Int)) :=
  ((lcR a0 (fun x1 => Res.ok true) (fun x1 => (N_frozen_piiq x1))).bind fun x2 => (Res.ok x2))
theorem nr_frozen_lpiiq (n : Nat) (a0 : (List (Int × Int))) : Rf (r_frozen (n + 3) [(eL (eP2 D.int D.int)) a0]) (N_frozen_lpiiq a0) (eT (eP2 D.int D.int)) :=
  n_runF ((t_ifT (evTr (ev1 rfl (isi2_a isTy_list_lst)) rfl) (t_retF (q_on (a_i (rf_lcp (it_L (e := (eP2 D.int D.int)) (xs := a0) rfl) (fun x1 : (Int × Int) => [some ((eL (eP2 D.int D.int)) a0), some ((eP2 D.int D.int) x1)]) (fun _ => rfl) (fun x1 => (rf_ok (v := true) rfl)) (fun x1 => (q_on (a_p rfl (a_0 (rf_chk (nr_frozen_piiq (n + 0) x1) rfl)))))) fun x2 => (a_0 (rf_ok rfl)))))))
def N_frozen_llpiiq (a0 : (List (List (Int × Int)))) : Res (List (List (Int × Int))) :=
  ((lcR a0 (fun x1 => Res.ok true) (fun x1 => (N_frozen_lpiiq x1))).bind fun x2 => (Res.ok x2))
theorem nr_frozen_llpiiq (n : Nat) (a0 : (List (List (Int × Int)))) : Rf (r_frozen (n + 4) [(eL (eL (eP2 D.int D.int))) a0]) (N_frozen_llpiiq a0) (eT (eT (eP2 D.int D.int))) :=
  n_runF ((t_ifT (evTr (ev1 rfl (isi2_a isTy_list_lst)) rfl) (t_retF (q_on (a_i (rf_lcp (it_L (e := (eL (eP2 D.int D.int))) (xs := a0) rfl) (fun x1 : (List (Int × Int)) => [some ((eL (eL (eP2 D.int D.int))) a0), some ((eL (eP2 D.int D.int)) x1)]) (fun _ => rfl) (fun x1 => (rf_ok (v := true) rfl)) (fun x1 => (q_on (a_p rfl (a_0 (rf_chk (nr_frozen_lpiiq (n + 0) x1) rfl)))))) fun x2 => (a_0 (rf_ok rfl)))))))
theorem n_frozen_llpiiq (a0 : (List (List (Int × Int)))) : Rf (m_frozen [(eL (eL (eP2 D.int D.int))) a0]) (N_frozen_llpiiq a0) (eT (eT (eP2 D.int D.int))) := nr_frozen_llpiiq 2 a0
def N_is_number_piiq (a0 : (Int × Int)) : Res Bool :=
  (Res.ok false)
theorem n_is_number_piiq (a0 : (Int × Int)) : Rf (m_is_number [(eP2 D.int D.int) a0]) (N_is_number_piiq a0) D.bl :=
  n_runF ((t_end (t_retF (rf_ok (e := D.bl) (evBv (evAndF (evB (ev1 rfl (isi_of isTy_int_tup)))))))))
def N_as_fraction_piiq (a0 : (Int × Int)) : Res (Int × Int) :=
  (Res.ok a0)
theorem n_as_fraction_piiq (a0 : (Int × Int)) : Rf (m_as_fraction [(eP2 D.int D.int) a0]) (N_as_fraction_piiq a0) (eP2 D.int D.int) :=
  n_runF ((t_ifF (evTr (evOn (evA rfl rfl) (ev_chk (n_is_number_piiq a0) rfl)) rfl) (t_nextS (t_end (t_retF (rf_ok (e := (eP2 D.int D.int)) rfl))))))
def N_checked_rows_ttpiiq (a0 : (List (List (Int × Int)))) : Res (List (List (Int × Int))) :=
  ((forR (σ := Unit) (fun x1 x2 => (if (!decide ((x2.2.length : Int) = (a0.length : Int))) = true then (Res.ex "BadTable" [("index", D.int x2.1)]) else
  Res.ok ())) (enumI 0 a0) ()).bind fun x3 =>
  ((lcR a0 (fun x4 => Res.ok true) (fun x4 => ((lcR x4 (fun x5 => Res.ok true) (fun x5 => (N_as_fraction_piiq x5))).bind fun x6 => (Res.ok x6)))).bind fun x7 => (Res.ok x7)))
theorem n_checked_rows_ttpiiq (a0 : (List (List (Int × Int)))) : Rf (m_checked_rows [(eT (eT (eP2 D.int D.int))) a0]) (N_checked_rows_ttpiiq a0) (eT (eT (eP2 D.int D.int))) :=
  n_runF ((t_seq fin_F (fun x3 : Unit => [some ((eT (eT (eP2 D.int D.int))) a0), none, none, none]) (s_forp (ex := (eP2 D.int (eT (eP2 D.int D.int)))) (s0 := ()) (it_enT (e := (eT (eP2 D.int D.int))) (xs := a0) rfl) (fun x1 : Unit => [some ((eT (eT (eP2 D.int D.int))) a0), none, none, none]) (fun (x1 : Unit) (x2 : (Int × (List (Int × Int)))) => [some ((eT (eT (eP2 D.int D.int))) a0), some (D.int x2.1), some ((eT (eP2 D.int D.int)) x2.2), none]) rfl (fun _ _ => rfl) fun x1 x2 =>
  (t_if (evB (ev2 (evOn (evA rfl rfl) op_lenT) (evOn (evA rfl rfl) op_lenT) (op_ne (e := D.int) (x := (x2.2.length : Int)) (x' := (a0.length : Int))))) (t_raise fin_L (a_p rfl (a_0 (rf_ex rfl))))
  (t_nextS (t_next rfl)))) fun x3 =>
  (t_end (t_retF (q_on (a_i (rf_lcp (it_T (e := (eT (eP2 D.int D.int))) (xs := a0) rfl) (fun x4 : (List (Int × Int)) => [some ((eT (eT (eP2 D.int D.int))) a0), none, some ((eT (eP2 D.int D.int)) x4), none]) (fun _ => rfl) (fun x4 => (rf_ok (v := true) rfl)) (fun x4 => (q_on (a_i (rf_lcp (it_T (e := (eP2 D.int D.int)) (xs := x4) rfl) (fun x5 : (Int × Int) => [some ((eT (eT (eP2 D.int D.int))) a0), none, some ((eT (eP2 D.int D.int)) x4), some ((eP2 D.int D.int) x5)]) (fun _ => rfl) (fun x5 => (rf_ok (v := true) rfl)) (fun x5 => (q_on (a_p rfl (a_0 (rf_chk (n_as_fraction_piiq x5) rfl)))))) fun x6 => (a_0 (rf_ok rfl)))))) fun x7 => (a_0 (rf_ok rfl))))))))
def N_Table_init_llpiiq (a0 : (List (List (Int × Int)))) : Res ((List (List (Int × Int))) × Int) :=
  (((N_frozen_llpiiq a0).bind fun x1 => (N_checked_rows_ttpiiq x1)).bind fun x2 =>
  ((Res.ok (x2.length : Int)).bind fun x3 =>
  Res.ok (x2, x3)))
theorem n_Table_init_llpiiq (a0 : (List (List (Int × Int)))) : Rf (m_Table_init [(eL (eL (eP2 D.int D.int))) a0]) (N_Table_init_llpiiq a0) (eOb2 "Table" "rows" "size" (eT (eT (eP2 D.int D.int))) D.int) :=
  n_runI ((t_seq fin_I (fun x2 : (List (List (Int × Int))) => [some ((eOb1 "Table" "rows" (eT (eT (eP2 D.int D.int)))) x2), some ((eL (eL (eP2 D.int D.int))) a0)]) (s_fld (e := (eT (eT (eP2 D.int D.int)))) (ns := []) (ds := []) (fun v : (List (List (Int × Int))) => [some ((eOb1 "Table" "rows" (eT (eT (eP2 D.int D.int)))) v), some ((eL (eL (eP2 D.int D.int))) a0)]) rfl (by decide) (q_on (a_i (q_on (a_p rfl (a_0 (rf_chk (n_frozen_llpiiq a0) rfl)))) fun x1 => (a_0 (rf_chk (n_checked_rows_ttpiiq x1) rfl)))) fun _ => rfl) fun x2 =>
  (t_end (t_seq fin_I (fun x3 : Int => [some ((eOb2 "Table" "rows" "size" (eT (eT (eP2 D.int D.int))) D.int) (x2, x3)), some ((eL (eL (eP2 D.int D.int))) a0)]) (s_fld (e := D.int) (ns := ["rows"]) (ds := [(eT (eT (eP2 D.int D.int))) x2]) (fun v : Int => [some ((eOb2 "Table" "rows" "size" (eT (eT (eP2 D.int D.int))) D.int) (x2, v)), some ((eL (eL (eP2 D.int D.int))) a0)]) rfl (by decide) (rf_ok (e := D.int) (evOn (evA (ev1 rfl fld_hit) rfl) op_lenT)) fun _ => rfl) fun x3 =>
  (t_next (o := (eOb2 "Table" "rows" "size" (eT (eT (eP2 D.int D.int))) D.int)) (v := (x2, x3)) rfl)))))
def N_law_table_rows_i_li (a0 : Int) (a1 : (List Int)) : Res (List (List (Int × Int))) :=
  (((rngR a0).bind fun x32 => (forR (σ := (List (List (Int × Int)))) (fun x1 x2 => (((rngR a0).bind fun x29 => (forR (σ := (List (Int × Int))) (fun x3 x4 => (((((mulR a0 x2).bind fun x5 => (Res.ok (x5 + x4))).bind fun x6 => (mulR 2 x6)).bind fun x7 => (Res.ok (1 + x7))).bind fun x8 =>
  (((((ixR a1 x8).bind fun x9 => (Res.ok (x9 - 12))).bind fun x15 => (((ixR a1 x8).bind fun x10 => (Res.ok (x10 % 3))).bind fun x16 => (((ixR a1 x8).bind fun x11 => (Res.ok (x11 % 2))).bind fun x17 => (((ixR a1 x8).bind fun x12 => (Res.ok (x12 - 12))).bind fun x18 => (((ixR a1 x8).bind fun x13 => (Res.ok (x13 / 5))).bind fun x19 => (((ixR a1 x8).bind fun x14 => (Res.ok (x14 - 20))).bind fun x20 => ((ixR a1 x8).bind fun x21 => (Res.ok [x15, x16, x17, x18, x19, x20, x21])))))))).bind fun x22 => ((ixR a1 0).bind fun x23 => (ixR x22 x23))).bind fun x24 =>
  (((((ixR a1 (x8 + 1)).bind fun x25 => (ixR [1, 1, 1, 2, 3, 4, 6, 1, 5] x25)).bind fun x26 => (N_law_fraction_i_i x24 x26)).bind fun x27 => appR x3 x27).bind fun x28 =>
  Res.ok x28)))) x29 [])).bind fun x30 =>
  ((appR x1 x30).bind fun x31 =>
  Res.ok x31))) x32 [])).bind fun x33 =>
  (Res.ok x33))
def N_day_sum_cTablettpiiqiq_ti (a0 : ((List (List (Int × Int))) × Int)) (a1 : (List Int)) : Res (Int × Int) :=
  ((lcR (enumI 0 a1) (fun x1 => Res.ok true) (fun x1 => ((ixR a0.1 x1.1).bind fun x2 => (ixR x2 x1.2)))).bind fun x3 => (N_fraction_sum_lpiiq x3))
theorem n_day_sum_cTablettpiiqiq_ti (a0 : ((List (List (Int × Int))) × Int)) (a1 : (List Int)) : Rf (m_day_sum [(eOb2 "Table" "rows" "size" (eT (eT (eP2 D.int D.int))) D.int) a0, (eT D.int) a1]) (N_day_sum_cTablettpiiqiq_ti a0 a1) (eP2 D.int D.int) :=
  n_runF ((t_end (t_retF (q_on (a_i (rf_lcp (it_enT (e := D.int) (xs := a1) rfl) (fun x1 : (Int × Int) => [some ((eOb2 "Table" "rows" "size" (eT (eT (eP2 D.int D.int))) D.int) a0), some ((eT D.int) a1), some (D.int x1.1), some (D.int x1.2)]) (fun _ => rfl) (fun x1 => (rf_ok (v := true) rfl)) (fun x1 => (q_f2 (b_i (q_f2 (b_p (ev1 rfl fld_hit) (b_p rfl op_ixT))) fun x2 => (b_p rfl op_ixT))))) fun x3 => (a_0 (rf_chk (n_fraction_sum_lpiiq x3) rfl)))))))
def N_line_sums_ttpiiq (a0 : (List (List (Int × Int)))) : Res (List (Int × Int)) :=
  ((lcR a0 (fun x1 => Res.ok true) (fun x1 => (N_fraction_sum_tpiiq x1))).bind fun x2 => (Res.ok x2))
theorem n_line_sums_ttpiiq (a0 : (List (List (Int × Int)))) : Rf (m_line_sums [(eT (eT (eP2 D.int D.int))) a0]) (N_line_sums_ttpiiq a0) (eT (eP2 D.int D.int)) :=
  n_runF ((t_end (t_retF (q_on (a_i (rf_lcp (it_T (e := (eT (eP2 D.int D.int))) (xs := a0) rfl) (fun x1 : (List (Int × Int)) => [some ((eT (eT (eP2 D.int D.int))) a0), some ((eT (eP2 D.int D.int)) x1)]) (fun _ => rfl) (fun x1 => (rf_ok (v := true) rfl)) (fun x1 => (q_on (a_p rfl (a_0 (rf_chk (n_fraction_sum_tpiiq x1) rfl)))))) fun x2 => (a_0 (rf_ok rfl)))))))
def N_Table_mean_day_cTablettpiiqiq (a0 : ((List (List (Int × Int))) × Int)) : Res (Int × Int) :=
  (((N_line_sums_ttpiiq a0.1).bind fun x1 => (N_fraction_sum_tpiiq x1)).bind fun x2 =>
  ((mulR x2.2 (a0.1.length : Int)).bind fun x3 => (N_ratio_i_i x2.1 x3)))
theorem n_Table_mean_day_cTablettpiiqiq (a0 : ((List (List (Int × Int))) × Int)) : Rf (m_Table_mean_day [(eOb2 "Table" "rows" "size" (eT (eT (eP2 D.int D.int))) D.int) a0]) (N_Table_mean_day_cTablettpiiqiq a0) (eP2 D.int D.int) :=
  n_runF ((t_seq fin_F (fun x2 : (Int × Int) => [some ((eOb2 "Table" "rows" "size" (eT (eT (eP2 D.int D.int))) D.int) a0), some ((eP2 D.int D.int) x2)]) (s_set (e := (eP2 D.int D.int)) _ (q_on (a_i (q_on (a_p (ev1 rfl fld_hit) (a_0 (rf_chk (n_line_sums_ttpiiq a0.1) rfl)))) fun x1 => (a_0 (rf_chk (n_fraction_sum_tpiiq x1) rfl)))) fun _ => rfl) fun x2 =>
  (t_end (t_retF (q_on (a_p rfl (a_i (q_f2 (b_p rfl (b_p (evOn (evA (ev1 rfl fld_hit) rfl) op_lenT) op_mul))) fun x3 => (a_0 (rf_chk (n_ratio_i_i x2.1 x3) rfl)))))))))
end Kx
namespace Kx
open PySem PySem.Spec L2 Da
def N_frozen_ti (a0 : (List Int)) : Res (List Int) :=
  ((lcR a0 (fun x1 => Res.ok true) (fun x1 => (N_frozen_i x1))).bind fun x2 => (Res.ok x2))
theorem nr_frozen_ti (n : Nat) (a0 : (List Int)) : Rf (r_frozen (n + 2) [(eT D.int) a0]) (N_frozen_ti a0) (eT D.int) :=
  n_runF ((t_ifT (evTr (ev1 rfl (isi2_b isTy_list_tup isTy_tuple_tup)) rfl) (t_retF (q_on (a_i (rf_lcp (it_T (e := D.int) (xs := a0) rfl) (fun x1 : Int => [some ((eT D.int) a0), some (D.int x1)]) (fun _ => rfl) (fun x1 => (rf_ok (v := true) rfl)) (fun x1 => (q_on (a_p rfl (a_0 (rf_chk (nr_frozen_i (n + 0) x1) rfl)))))) fun x2 => (a_0 (rf_ok rfl)))))))
theorem n_frozen_ti (a0 : (List Int)) : Rf (m_frozen [(eT D.int) a0]) (N_frozen_ti a0) (eT D.int) := nr_frozen_ti 4 a0
end Kx
namespace Kx
open PySem PySem.Spec L2 Da
def N_frozen_li (a0 : (List Int)) : Res (List Int) :=
  ((lcR a0 (fun x1 => Res.ok true) (fun x1 => (N_frozen_i x1))).bind fun x2 => (Res.ok x2))
theorem nr_frozen_li (n : Nat) (a0 : (List Int)) : Rf (r_frozen (n + 2) [(eL D.int) a0]) (N_frozen_li a0) (eT D.int) :=
  n_runF ((t_ifT (evTr (ev1 rfl (isi2_a isTy_list_lst)) rfl) (t_retF (q_on (a_i (rf_lcp (it_L (e := D.int) (xs := a0) rfl) (fun x1 : Int => [some ((eL D.int) a0), some (D.int x1)]) (fun _ => rfl) (fun x1 => (rf_ok (v := true) rfl)) (fun x1 => (q_on (a_p rfl (a_0 (rf_chk (nr_frozen_i (n + 0) x1) rfl)))))) fun x2 => (a_0 (rf_ok rfl)))))))
theorem n_frozen_li (a0 : (List Int)) : Rf (m_frozen [(eL D.int) a0]) (N_frozen_li a0) (eT D.int) := nr_frozen_li 4 a0
end Kx
namespace Kx
open PySem PySem.Spec L2 Da
def F_law_any_lot : FS := (fSeq (fSet 2 (fLc [3] (fR1 (fA (fV 0) fA0)) (gN 3) fYes (fC (.int 1))))
    (fSeq (fFgt [] (fIfS (fB (f2 dEq (f2 dIx (fV 1) (fC (.int 0))) (fC (.int 1)))) (fSet 2 (fLc [3] (fR1 (fA (fV 0) fA0)) (gN 3) fYes (f2 dMod (fOn (on1 dInt) (fA (f2 dIx (fV 1) (f2 dAdd (fC (.int 1)) (fV 3))) fA0)) (fC (.int 4))))) fNext))
    (fSeq (fFgt [] (fIfS (fB (f2 dEq (f2 dIx (fV 1) (fC (.int 0))) (fC (.int 2)))) (fSet 2 (fLc [3] (fR1 (fA (fV 0) fA0)) (gN 3) fYes (f2 dIx (fV 1) (f2 dAdd (fC (.int 1)) (fV 3))))) fNext))
    (fSeq (fFgt [] (fIfS (fB (f2 dEq (fSc (fOn (on1 dSum) (fA (fV 2) fA0))) (fC (.int 0)))) (fSetIx 2 (fC (.int 1000)) (f2 dSub (fV 0) (fC (.int 1)))) fNext))
    (fRet (fV 2))))))
def m_law_any_lot : List D → Res D := runF 4 .ow F_law_any_lot
def F_checked_lot : FS := (fSeq (fSet 0 (fOn (chk 1 m_frozen) (fA (fV 0) fA0)))
    (fSeq (fIfS (fOr (fB (f2 dNe (fOn (on1 dLen) (fA (fV 0) fA0)) (fV 1))) (fOr (fNot (fTr (fOn (on1 dAll) (fA (fLc [2] (fL (fV 0)) (gN 2) fYes (fChain dLe dLe (fC (.int 0)) (fV 2) (fC (.int 1000)))) fA0)))) (fB (f2 dEq (fOn (on1 dSumT) (fA (fV 0) fA0)) (fC (.int 0)))))) (fRaise "BadLot" [] fA0) fNext)
    (fRet (fV 0))))
def m_checked_lot : List D → Res D := runF 3 .sh F_checked_lot
def N_law_any_lot_i_li (a0 : Int) (a1 : (List Int)) : Res (List Int) :=
  (((rngR a0).bind fun x2 => lcR x2 (fun x1 => Res.ok true) (fun x1 => (Res.ok 1))).bind fun x3 =>
  ((((ixR a1 0).bind fun x18 => (Res.ok (decide (x18 = 1)))).bind fun x24 => if x24 = true then (((rngR a0).bind fun x22 => lcR x22 (fun x19 => Res.ok true) (fun x19 => (((ixR a1 (1 + x19)).bind fun x20 => (Res.ok x20)).bind fun x21 => (Res.ok (x21 % 4))))).bind fun x23 =>
  Res.ok x23) else
  Res.ok x3).bind fun x25 =>
  ((((ixR a1 0).bind fun x36 => (Res.ok (decide (x36 = 2)))).bind fun x40 => if x40 = true then (((rngR a0).bind fun x38 => lcR x38 (fun x37 => Res.ok true) (fun x37 => (ixR a1 (1 + x37)))).bind fun x39 =>
  Res.ok x39) else
  Res.ok x25).bind fun x41 =>
  ((if (decide (x41.sum = 0)) = true then ((setR x41 (a0 - 1) 1000).bind fun x44 =>
  Res.ok x44) else
  Res.ok x41).bind fun x45 =>
  (Res.ok x45)))))
theorem n_law_any_lot_i_li (a0 : Int) (a1 : (List Int)) : Rf (m_law_any_lot [D.int a0, (eL D.int) a1]) (N_law_any_lot_i_li a0 a1) (eL D.int) :=
  n_runF ((t_seq fin_F (fun x3 : (List Int) => [some (D.int a0), some ((eL D.int) a1), some ((eL D.int) x3), none]) (s_set (e := (eL D.int)) _ (rf_lc (q_R1 (a_p rfl (a_0 k_R1))) (fun x1 : Int => [some (D.int a0), some ((eL D.int) a1), none, some (D.int x1)]) (fun _ => rfl) (fun x1 => (rf_ok (v := true) rfl)) (fun x1 => (rf_ok (e := D.int) rfl))) fun _ => rfl) fun x3 =>
  (t_seq fin_F (fun x25 : (List Int) => [some (D.int a0), some ((eL D.int) a1), some ((eL D.int) x25), none]) (s_if (o' := (fun s : (List Int) => Fl.nx [some (D.int a0), some ((eL D.int) a1), some ((eL D.int) s), none])) (t_ifI fin_S (q_B (b_iB (q_f2 (b_i (q_f2 (b_p rfl (b_p rfl op_ixL))) fun x18 => (b_p rfl (rf_ok (op_eq (e := D.int) (x := x18) (x' := 1)))))))) (t_seq fin_S (fun x23 : (List Int) => [some (D.int a0), some ((eL D.int) a1), some ((eL D.int) x23), none]) (s_set (e := (eL D.int)) _ (rf_lc (q_R1 (a_p rfl (a_0 k_R1))) (fun x19 : Int => [some (D.int a0), some ((eL D.int) a1), some ((eL D.int) x3), some (D.int x19)]) (fun _ => rfl) (fun x19 => (rf_ok (v := true) rfl)) (fun x19 => (q_f2 (b_i (q_on (a_i (q_f2 (b_p rfl (b_p rfl op_ixL))) fun x20 => (a_0 (rf_ok rfl)))) fun x21 => (b_p rfl (rf_ok (op_modp (by decide)))))))) fun _ => rfl) fun x23 =>
  (t_next rfl))
  (t_nextS (t_next rfl)))) fun x25 =>
  (t_seq fin_F (fun x41 : (List Int) => [some (D.int a0), some ((eL D.int) a1), some ((eL D.int) x41), none]) (s_if (o' := (fun s : (List Int) => Fl.nx [some (D.int a0), some ((eL D.int) a1), some ((eL D.int) s), none])) (t_ifI fin_S (q_B (b_iB (q_f2 (b_i (q_f2 (b_p rfl (b_p rfl op_ixL))) fun x36 => (b_p rfl (rf_ok (op_eq (e := D.int) (x := x36) (x' := 2)))))))) (t_seq fin_S (fun x39 : (List Int) => [some (D.int a0), some ((eL D.int) a1), some ((eL D.int) x39), none]) (s_set (e := (eL D.int)) _ (rf_lc (q_R1 (a_p rfl (a_0 k_R1))) (fun x37 : Int => [some (D.int a0), some ((eL D.int) a1), some ((eL D.int) x25), some (D.int x37)]) (fun _ => rfl) (fun x37 => (rf_ok (v := true) rfl)) (fun x37 => (q_f2 (b_p rfl (b_p rfl op_ixL))))) fun _ => rfl) fun x39 =>
  (t_next rfl))
  (t_nextS (t_next rfl)))) fun x41 =>
  (t_seq fin_F (fun x45 : (List Int) => [some (D.int a0), some ((eL D.int) a1), some ((eL D.int) x45), none]) (s_if (o' := (fun s : (List Int) => Fl.nx [some (D.int a0), some ((eL D.int) a1), some ((eL D.int) s), none])) (t_if (evB (ev2 (evSc (evOn (evA rfl rfl) op_sumL) rfl) rfl (op_eq (e := D.int) (x := x41.sum) (x' := 0)))) (t_seq fin_S (fun x44 : (List Int) => [some (D.int a0), some ((eL D.int) a1), some ((eL D.int) x44), none]) (s_setIx (e := D.int) (xs := x41) (d := 1000) (fun ys : (List Int) => [some (D.int a0), some ((eL D.int) a1), some ((eL D.int) ys), none]) rfl rfl rfl fun _ => rfl) fun x44 =>
  (t_next rfl))
  (t_nextS (t_next rfl)))) fun x45 =>
  (t_end (t_retF (rf_ok (e := (eL D.int)) rfl))))))))
end Kx
namespace Kx
open PySem PySem.Spec L2 Da
def F_Table_row_sums : FS := (fRet (fOn (chk 1 m_line_sums) (fA (f1 (dFld "Table" "rows") (fV 0)) fA0)))
def m_Table_row_sums : List D → Res D := runF 1 .sh F_Table_row_sums
def F_turned_rows : FS := (fRet (fOn (on1 dTuple) (fA (fLc [1] (fR1 (fA (fOn (on1 dLen) (fA (fV 0) fA0)) fA0)) (gN 1) fYes (fOn (on1 dTuple) (fA (fLc [2] (fR1 (fA (fOn (on1 dLen) (fA (fV 0) fA0)) fA0)) (gN 2) fYes (f2 dIx (f2 dIx (fV 0) (fV 2)) (fV 1))) fA0))) fA0)))
def m_turned_rows : List D → Res D := runF 3 .sh F_turned_rows
def F_Table_column_sums : FS := (fRet (fOn (chk 1 m_line_sums) (fA (fOn (chk 1 m_turned_rows) (fA (f1 (dFld "Table" "rows") (fV 0)) fA0)) fA0)))
def m_Table_column_sums : List D → Res D := runF 1 .sh F_Table_column_sums
def F_less : FS := (fRet (fOn (chk 2 m_ratio) (fA (f2 dSub (f2 dMul (f2 dIx (fV 0) (fC (.int 0))) (f2 dIx (fV 1) (fC (.int 1)))) (f2 dMul (f2 dIx (fV 1) (fC (.int 0))) (f2 dIx (fV 0) (fC (.int 1))))) (fA (f2 dMul (f2 dIx (fV 0) (fC (.int 1))) (f2 dIx (fV 1) (fC (.int 1)))) fA0))))
def m_less : List D → Res D := runF 2 .sh F_less
def F_law_total : FS := (fSeq (fSet 1 (fOn gTupD (fA (fC (.int 0)) (fA (fC (.int 1)) fA0))))
    (fSeq (fFor (fL (fV 0)) (gN 2) (fFgt [2, 3] (fFor (fL (fV 2)) (gN 3) (fFgt [3] (fSet 1 (fOn (chk 2 m_law_added) (fA (fV 1) (fA (fV 3) fA0))))))))
    (fRet (fV 1))))
def m_law_total : List D → Res D := runF 4 .sh F_law_total
def F_law_timed : FS := (fRet (fOn (chk 2 m_law_fraction) (fA (f2 dMul (f2 dIx (fV 0) (fC (.int 0))) (f2 dIx (fV 1) (fC (.int 0)))) (fA (f2 dMul (f2 dIx (fV 0) (fC (.int 1))) (f2 dIx (fV 1) (fC (.int 1)))) fA0))))
def m_law_timed : List D → Res D := runF 2 .sh F_law_timed
def F_law_break : FS := (fSeq (fSet 1 (fOn (on1 dLen) (fA (fV 0) fA0)))
    (fSeq (fFor (fR1 (fA (fV 1) fA0)) (gN 2) (fFgt [2, 3, 4, 5] (fFor (fR2 (fA (f2 dAdd (fV 2) (fC (.int 1))) (fA (fV 1) fA0))) (gN 3) (fFgt [3, 4, 5] (fFor (fR1 (fA (fV 1) fA0)) (gN 4) (fFgt [4, 5] (fFor (fR2 (fA (f2 dAdd (fV 4) (fC (.int 1))) (fA (fV 1) fA0))) (gN 5) (fFgt [5] (fIfS (fB (f2 dNe (fOn (chk 2 m_law_added) (fA (f2 dIx (f2 dIx (fV 0) (fV 2)) (fV 4)) (fA (f2 dIx (f2 dIx (fV 0) (fV 3)) (fV 5)) fA0))) (fOn (chk 2 m_law_added) (fA (f2 dIx (f2 dIx (fV 0) (fV 2)) (fV 5)) (fA (f2 dIx (f2 dIx (fV 0) (fV 3)) (fV 4)) fA0))))) (fRet (fOn gTupD (fA (fV 2) (fA (fV 3) (fA (fV 4) (fA (fV 5) fA0)))))) fNext)))))))))
    (fRet (fC .non))))
def m_law_break : List D → Res D := runF 6 .sh F_law_break
def N_less_piiq_piiq (a0 : (Int × Int)) (a1 : (Int × Int)) : Res (Int × Int) :=
  (((mulR a0.1 a1.2).bind fun x1 => ((mulR a1.1 a0.2).bind fun x2 => (Res.ok (x1 - x2)))).bind fun x3 => ((mulR a0.2 a1.2).bind fun x4 => (N_ratio_i_i x3 x4)))
theorem n_less_piiq_piiq (a0 : (Int × Int)) (a1 : (Int × Int)) : Rf (m_less [(eP2 D.int D.int) a0, (eP2 D.int D.int) a1]) (N_less_piiq_piiq a0 a1) (eP2 D.int D.int) :=
  n_runF ((t_end (t_retF (q_on (a_i (q_f2 (b_i (q_f2 (b_p rfl (b_p rfl op_mul))) fun x1 => (b_i (q_f2 (b_p rfl (b_p rfl op_mul))) fun x2 => (rf_ok rfl)))) fun x3 => (a_i (q_f2 (b_p rfl (b_p rfl op_mul))) fun x4 => (a_0 (rf_chk (n_ratio_i_i x3 x4) rfl))))))))
def N_law_timed_piiq_piiq (a0 : (Int × Int)) (a1 : (Int × Int)) : Res (Int × Int) :=
  ((mulR a0.1 a1.1).bind fun x1 => ((mulR a0.2 a1.2).bind fun x2 => (N_law_fraction_i_i x1 x2)))
theorem n_law_timed_piiq_piiq (a0 : (Int × Int)) (a1 : (Int × Int)) : Rf (m_law_timed [(eP2 D.int D.int) a0, (eP2 D.int D.int) a1]) (N_law_timed_piiq_piiq a0 a1) (eP2 D.int D.int) :=
  n_runF ((t_end (t_retF (q_on (a_i (q_f2 (b_p rfl (b_p rfl op_mul))) fun x1 => (a_i (q_f2 (b_p rfl (b_p rfl op_mul))) fun x2 => (a_0 (rf_chk (n_law_fraction_i_i x1 x2) rfl))))))))
def N_law_break_llpiiq (a0 : (List (List (Int × Int)))) : Res (Option (Int × Int × Int × Int)) :=
  ((rngR (a0.length : Int)).bind fun x27 => ((forC (σ := Unit) (β := (Option (Int × Int × Int × Int))) (fun x1 x2 => ((rng2R (x2 + 1) (a0.length : Int)).bind fun x25 => ((forC (σ := Unit) (β := (Option (Int × Int × Int × Int))) (fun x3 x4 => ((rngR (a0.length : Int)).bind fun x23 => ((forC (σ := Unit) (β := (Option (Int × Int × Int × Int))) (fun x5 x6 => ((rng2R (x6 + 1) (a0.length : Int)).bind fun x21 => ((forC (σ := Unit) (β := (Option (Int × Int × Int × Int))) (fun x7 x8 => (((((ixR a0 x2).bind fun x9 => (ixR x9 x6)).bind fun x11 => (((ixR a0 x4).bind fun x10 => (ixR x10 x8)).bind fun x12 => (N_law_added_piiq_piiq x11 x12))).bind fun x17 => ((((ixR a0 x2).bind fun x13 => (ixR x13 x8)).bind fun x15 => (((ixR a0 x4).bind fun x14 => (ixR x14 x6)).bind fun x16 => (N_law_added_piiq_piiq x15 x16))).bind fun x18 => (Res.ok (!decide (x17 = x18))))).bind fun x19 => if x19 = true then Res.ok (.ret (some (x2, x4, x6, x8))) else
  Res.ok (.go ()))) x21 ()).bind (ctlK (fun x20 => Res.ok (.go ())) (fun v => Ctl.ret v))))) x23 ()).bind (ctlK (fun x22 => Res.ok (.go ())) (fun v => Ctl.ret v))))) x25 ()).bind (ctlK (fun x24 => Res.ok (.go ())) (fun v => Ctl.ret v))))) x27 ()).bind (ctlK (fun x26 => (Res.ok none)) (fun v => v))))
theorem n_law_break_llpiiq (a0 : (List (List (Int × Int)))) : Rf (m_law_break [(eL (eL (eP2 D.int D.int))) a0]) (N_law_break_llpiiq a0) (eO (eP4 D.int D.int D.int D.int)) :=
  n_runF ((t_seqp [some ((eL (eL (eP2 D.int D.int))) a0), some (D.int (a0.length : Int)), none, none, none, none] (set_p (evOn (evA rfl rfl) op_lenL) rfl) (t_forC (ex := D.int) (e := (eO (eP4 D.int D.int D.int D.int))) (s0 := ()) (rk := (fun v => v)) fin_F (q_R1 (a_p rfl (a_0 k_R1))) (fun x1 : Unit => [some ((eL (eL (eP2 D.int D.int))) a0), some (D.int (a0.length : Int)), none, none, none, none]) (fun (x1 : Unit) (x2 : Int) => [some ((eL (eL (eP2 D.int D.int))) a0), some (D.int (a0.length : Int)), some (D.int x2), none, none, none]) rfl (fun _ _ => rfl) (fun x1 x2 =>
  (t_forC (ex := D.int) (e := (eO (eP4 D.int D.int D.int D.int))) (s0 := ()) (rk := (fun v => Ctl.ret v)) fin_L (q_R2 (a_p rfl (a_p rfl (a_0 k_R2)))) (fun x3 : Unit => [some ((eL (eL (eP2 D.int D.int))) a0), some (D.int (a0.length : Int)), some (D.int x2), none, none, none]) (fun (x3 : Unit) (x4 : Int) => [some ((eL (eL (eP2 D.int D.int))) a0), some (D.int (a0.length : Int)), some (D.int x2), some (D.int x4), none, none]) rfl (fun _ _ => rfl) (fun x3 x4 =>
  (t_forC (ex := D.int) (e := (eO (eP4 D.int D.int D.int D.int))) (s0 := ()) (rk := (fun v => Ctl.ret v)) fin_L (q_R1 (a_p rfl (a_0 k_R1))) (fun x5 : Unit => [some ((eL (eL (eP2 D.int D.int))) a0), some (D.int (a0.length : Int)), some (D.int x2), some (D.int x4), none, none]) (fun (x5 : Unit) (x6 : Int) => [some ((eL (eL (eP2 D.int D.int))) a0), some (D.int (a0.length : Int)), some (D.int x2), some (D.int x4), some (D.int x6), none]) rfl (fun _ _ => rfl) (fun x5 x6 =>
  (t_forC (ex := D.int) (e := (eO (eP4 D.int D.int D.int D.int))) (s0 := ()) (rk := (fun v => Ctl.ret v)) fin_L (q_R2 (a_p rfl (a_p rfl (a_0 k_R2)))) (fun x7 : Unit => [some ((eL (eL (eP2 D.int D.int))) a0), some (D.int (a0.length : Int)), some (D.int x2), some (D.int x4), some (D.int x6), none]) (fun (x7 : Unit) (x8 : Int) => [some ((eL (eL (eP2 D.int D.int))) a0), some (D.int (a0.length : Int)), some (D.int x2), some (D.int x4), some (D.int x6), some (D.int x8)]) rfl (fun _ _ => rfl) (fun x7 x8 =>
  (t_ifI fin_L (q_B (b_iB (q_f2 (b_i (q_on (a_i (q_f2 (b_i (q_f2 (b_p rfl (b_p rfl op_ixL))) fun x9 => (b_p rfl op_ixL))) fun x11 => (a_i (q_f2 (b_i (q_f2 (b_p rfl (b_p rfl op_ixL))) fun x10 => (b_p rfl op_ixL))) fun x12 => (a_0 (rf_chk (n_law_added_piiq_piiq x11 x12) rfl))))) fun x17 => (b_i (q_on (a_i (q_f2 (b_i (q_f2 (b_p rfl (b_p rfl op_ixL))) fun x13 => (b_p rfl op_ixL))) fun x15 => (a_i (q_f2 (b_i (q_f2 (b_p rfl (b_p rfl op_ixL))) fun x14 => (b_p rfl op_ixL))) fun x16 => (a_0 (rf_chk (n_law_added_piiq_piiq x15 x16) rfl))))) fun x18 => (rf_ok (op_ne (e := (eP2 D.int D.int)) (x := x17) (x' := x18)))))))) (t_retp rfl rfl)
  (t_nextS (t_next rfl)))) (fun x20 =>
  (t_next rfl)) fun _ => rfl)) (fun x22 =>
  (t_next rfl)) fun _ => rfl)) (fun x24 =>
  (t_next rfl)) fun _ => rfl)) (fun x26 =>
  (t_end (t_retF (rf_ok (e := (eO (eP4 D.int D.int D.int D.int))) rfl)))) fun _ => rfl)))
def N_Table_row_sums_cTablettpiiqiq (a0 : ((List (List (Int × Int))) × Int)) : Res (List (Int × Int)) :=
  (N_line_sums_ttpiiq a0.1)
theorem n_Table_row_sums_cTablettpiiqiq (a0 : ((List (List (Int × Int))) × Int)) : Rf (m_Table_row_sums [(eOb2 "Table" "rows" "size" (eT (eT (eP2 D.int D.int))) D.int) a0]) (N_Table_row_sums_cTablettpiiqiq a0) (eT (eP2 D.int D.int)) :=
  n_runF ((t_end (t_retF (q_on (a_p (ev1 rfl fld_hit) (a_0 (rf_chk (n_line_sums_ttpiiq a0.1) rfl)))))))
def N_turned_rows_ttpiiq (a0 : (List (List (Int × Int)))) : Res (List (List (Int × Int))) :=
  (((rngR (a0.length : Int)).bind fun x6 => lcR x6 (fun x1 => Res.ok true) (fun x1 => (((rngR (a0.length : Int)).bind fun x4 => lcR x4 (fun x2 => Res.ok true) (fun x2 => ((ixR a0 x2).bind fun x3 => (ixR x3 x1)))).bind fun x5 => (Res.ok x5)))).bind fun x7 => (Res.ok x7))
theorem n_turned_rows_ttpiiq (a0 : (List (List (Int × Int)))) : Rf (m_turned_rows [(eT (eT (eP2 D.int D.int))) a0]) (N_turned_rows_ttpiiq a0) (eT (eT (eP2 D.int D.int))) :=
  n_runF ((t_end (t_retF (q_on (a_i (rf_lc (q_R1 (a_p (evOn (evA rfl rfl) op_lenT) (a_0 k_R1))) (fun x1 : Int => [some ((eT (eT (eP2 D.int D.int))) a0), some (D.int x1), none]) (fun _ => rfl) (fun x1 => (rf_ok (v := true) rfl)) (fun x1 => (q_on (a_i (rf_lc (q_R1 (a_p (evOn (evA rfl rfl) op_lenT) (a_0 k_R1))) (fun x2 : Int => [some ((eT (eT (eP2 D.int D.int))) a0), some (D.int x1), some (D.int x2)]) (fun _ => rfl) (fun x2 => (rf_ok (v := true) rfl)) (fun x2 => (q_f2 (b_i (q_f2 (b_p rfl (b_p rfl op_ixT))) fun x3 => (b_p rfl op_ixT))))) fun x5 => (a_0 (rf_ok rfl)))))) fun x7 => (a_0 (rf_ok rfl)))))))
def N_Table_column_sums_cTablettpiiqiq (a0 : ((List (List (Int × Int))) × Int)) : Res (List (Int × Int)) :=
  ((N_turned_rows_ttpiiq a0.1).bind fun x1 => (N_line_sums_ttpiiq x1))
theorem n_Table_column_sums_cTablettpiiqiq (a0 : ((List (List (Int × Int))) × Int)) : Rf (m_Table_column_sums [(eOb2 "Table" "rows" "size" (eT (eT (eP2 D.int D.int))) D.int) a0]) (N_Table_column_sums_cTablettpiiqiq a0) (eT (eP2 D.int D.int)) :=
  n_runF ((t_end (t_retF (q_on (a_i (q_on (a_p (ev1 rfl fld_hit) (a_0 (rf_chk (n_turned_rows_ttpiiq a0.1) rfl)))) fun x1 => (a_0 (rf_chk (n_line_sums_ttpiiq x1) rfl)))))))
def N_law_total_llpiiq (a0 : (List (List (Int × Int)))) : Res (Int × Int) :=
  ((forR (σ := (Int × Int)) (fun x1 x2 => ((forR (σ := (Int × Int)) (fun x3 x4 => ((N_law_added_piiq_piiq x3 x4).bind fun x5 =>
  Res.ok x5)) x2 x1).bind fun x6 =>
  Res.ok x6)) a0 (0, 1)).bind fun x7 =>
  (Res.ok x7))
theorem n_law_total_llpiiq (a0 : (List (List (Int × Int)))) : Rf (m_law_total [(eL (eL (eP2 D.int D.int))) a0]) (N_law_total_llpiiq a0) (eP2 D.int D.int) :=
  n_runF ((t_seqp [some ((eL (eL (eP2 D.int D.int))) a0), some ((eP2 D.int D.int) (0, 1)), none, none] (set_p rfl rfl) (t_seq fin_F (fun x7 : (Int × Int) => [some ((eL (eL (eP2 D.int D.int))) a0), some ((eP2 D.int D.int) x7), none, none]) (s_forp (ex := (eL (eP2 D.int D.int))) (s0 := (0, 1)) (it_L (e := (eL (eP2 D.int D.int))) (xs := a0) rfl) (fun x1 : (Int × Int) => [some ((eL (eL (eP2 D.int D.int))) a0), some ((eP2 D.int D.int) x1), none, none]) (fun (x1 : (Int × Int)) (x2 : (List (Int × Int))) => [some ((eL (eL (eP2 D.int D.int))) a0), some ((eP2 D.int D.int) x1), some ((eL (eP2 D.int D.int)) x2), none]) rfl (fun _ _ => rfl) fun x1 x2 =>
  (t_seq fin_L (fun x6 : (Int × Int) => [some ((eL (eL (eP2 D.int D.int))) a0), some ((eP2 D.int D.int) x6), some ((eL (eP2 D.int D.int)) x2), none]) (s_forp (ex := (eP2 D.int D.int)) (s0 := x1) (it_L (e := (eP2 D.int D.int)) (xs := x2) rfl) (fun x3 : (Int × Int) => [some ((eL (eL (eP2 D.int D.int))) a0), some ((eP2 D.int D.int) x3), some ((eL (eP2 D.int D.int)) x2), none]) (fun (x3 : (Int × Int)) (x4 : (Int × Int)) => [some ((eL (eL (eP2 D.int D.int))) a0), some ((eP2 D.int D.int) x3), some ((eL (eP2 D.int D.int)) x2), some ((eP2 D.int D.int) x4)]) rfl (fun _ _ => rfl) fun x3 x4 =>
  (t_seq fin_L (fun x5 : (Int × Int) => [some ((eL (eL (eP2 D.int D.int))) a0), some ((eP2 D.int D.int) x5), some ((eL (eP2 D.int D.int)) x2), some ((eP2 D.int D.int) x4)]) (s_set (e := (eP2 D.int D.int)) _ (q_on (a_p rfl (a_p rfl (a_0 (rf_chk (n_law_added_piiq_piiq x3 x4) rfl))))) fun _ => rfl) fun x5 =>
  (t_next rfl))) fun x6 =>
  (t_next rfl))) fun x7 =>
  (t_end (t_retF (rf_ok (e := (eP2 D.int D.int)) rfl))))))
def N_law_same_tpiiq_lpiiq (a0 : (List (Int × Int))) (a1 : (List (Int × Int))) : Res Bool :=
  (if (!decide ((a0.length : Int) = (a1.length : Int))) = true then (Res.ok false) else
  ((rngR (a1.length : Int)).bind fun x8 => ((forC (σ := Unit) (β := Bool) (fun x1 x2 => ((((ixR a0 x2).bind fun x3 => ((ixR a1 x2).bind fun x4 => (N_law_same_piiq_piiq x3 x4))).bind fun x5 => Res.ok (!x5)).bind fun x6 => if x6 = true then Res.ok (.ret false) else
  Res.ok (.go ()))) x8 ()).bind (ctlK (fun x7 => (Res.ok true)) (fun v => v)))))
theorem nr_law_same_tpiiq_lpiiq (n : Nat) (a0 : (List (Int × Int))) (a1 : (List (Int × Int))) : Rf (r_law_same (n + 3) [(eT (eP2 D.int D.int)) a0, (eL (eP2 D.int D.int)) a1]) (N_law_same_tpiiq_lpiiq a0 a1) D.bl :=
  n_runF ((t_ifT (evOrF (evTr (ev1 rfl (isi_of isTy_tuple_lst)) rfl) (evTr (ev1 rfl (isi_of isTy_list_lst)) rfl)) (t_assoc (t_if (evOrF (evNot (evTr (ev1 rfl (isi_of isTy_tuple_tup)) rfl)) (evB (ev2 (evOn (evA rfl rfl) op_lenT) (evOn (evA rfl rfl) op_lenL) (op_ne (e := D.int) (x := (a0.length : Int)) (x' := (a1.length : Int)))))) (t_retF (rf_ok (e := D.bl) rfl))
  (t_nextS (t_assoc (t_forC (ex := D.int) (e := D.bl) (s0 := ()) (rk := (fun v => v)) fin_F (q_R1 (a_p (evOn (evA rfl rfl) op_lenL) (a_0 k_R1))) (fun x1 : Unit => [some ((eT (eP2 D.int D.int)) a0), some ((eL (eP2 D.int D.int)) a1), none]) (fun (x1 : Unit) (x2 : Int) => [some ((eT (eP2 D.int D.int)) a0), some ((eL (eP2 D.int D.int)) a1), some (D.int x2)]) rfl (fun _ _ => rfl) (fun x1 x2 =>
  (t_ifI fin_L (q_Not (b_i (q_Tr (b_iT (q_on (a_i (q_f2 (b_p rfl (b_p rfl op_ixT))) fun x3 => (a_i (q_f2 (b_p rfl (b_p rfl op_ixL))) fun x4 => (a_0 (rf_chk (nr_law_same_piiq_piiq (n + 0) x3 x4) rfl))))))) fun _ => rf_ok rfl)) (t_retp rfl rfl)
  (t_nextS (t_next rfl)))) (fun x7 =>
  (t_retF (rf_ok (e := D.bl) rfl))) fun _ => rfl)))))))
def N_law_same_ttpiiq_llpiiq (a0 : (List (List (Int × Int)))) (a1 : (List (List (Int × Int)))) : Res Bool :=
  (if (!decide ((a0.length : Int) = (a1.length : Int))) = true then (Res.ok false) else
  ((rngR (a1.length : Int)).bind fun x8 => ((forC (σ := Unit) (β := Bool) (fun x1 x2 => ((((ixR a0 x2).bind fun x3 => ((ixR a1 x2).bind fun x4 => (N_law_same_tpiiq_lpiiq x3 x4))).bind fun x5 => Res.ok (!x5)).bind fun x6 => if x6 = true then Res.ok (.ret false) else
  Res.ok (.go ()))) x8 ()).bind (ctlK (fun x7 => (Res.ok true)) (fun v => v)))))
theorem nr_law_same_ttpiiq_llpiiq (n : Nat) (a0 : (List (List (Int × Int)))) (a1 : (List (List (Int × Int)))) : Rf (r_law_same (n + 4) [(eT (eT (eP2 D.int D.int))) a0, (eL (eL (eP2 D.int D.int))) a1]) (N_law_same_ttpiiq_llpiiq a0 a1) D.bl :=
  n_runF ((t_ifT (evOrF (evTr (ev1 rfl (isi_of isTy_tuple_lst)) rfl) (evTr (ev1 rfl (isi_of isTy_list_lst)) rfl)) (t_assoc (t_if (evOrF (evNot (evTr (ev1 rfl (isi_of isTy_tuple_tup)) rfl)) (evB (ev2 (evOn (evA rfl rfl) op_lenT) (evOn (evA rfl rfl) op_lenL) (op_ne (e := D.int) (x := (a0.length : Int)) (x' := (a1.length : Int)))))) (t_retF (rf_ok (e := D.bl) rfl))
  (t_nextS (t_assoc (t_forC (ex := D.int) (e := D.bl) (s0 := ()) (rk := (fun v => v)) fin_F (q_R1 (a_p (evOn (evA rfl rfl) op_lenL) (a_0 k_R1))) (fun x1 : Unit => [some ((eT (eT (eP2 D.int D.int))) a0), some ((eL (eL (eP2 D.int D.int))) a1), none]) (fun (x1 : Unit) (x2 : Int) => [some ((eT (eT (eP2 D.int D.int))) a0), some ((eL (eL (eP2 D.int D.int))) a1), some (D.int x2)]) rfl (fun _ _ => rfl) (fun x1 x2 =>
  (t_ifI fin_L (q_Not (b_i (q_Tr (b_iT (q_on (a_i (q_f2 (b_p rfl (b_p rfl op_ixT))) fun x3 => (a_i (q_f2 (b_p rfl (b_p rfl op_ixL))) fun x4 => (a_0 (rf_chk (nr_law_same_tpiiq_lpiiq (n + 0) x3 x4) rfl))))))) fun _ => rf_ok rfl)) (t_retp rfl rfl)
  (t_nextS (t_next rfl)))) (fun x7 =>
  (t_retF (rf_ok (e := D.bl) rfl))) fun _ => rfl)))))))
theorem n_law_same_ttpiiq_llpiiq (a0 : (List (List (Int × Int)))) (a1 : (List (List (Int × Int)))) : Rf (m_law_same [(eT (eT (eP2 D.int D.int))) a0, (eL (eL (eP2 D.int D.int))) a1]) (N_law_same_ttpiiq_llpiiq a0 a1) D.bl := nr_law_same_ttpiiq_llpiiq 2 a0 a1
def N_law_split_rows_i_li (a0 : Int) (a1 : (List Int)) : Res (List (List (Int × Int))) :=
  (((rngR a0).bind fun x28 => (forR (σ := (List (List (Int × Int)))) (fun x1 x2 => (((rngR a0).bind fun x25 => (forR (σ := (List (Int × Int))) (fun x3 x4 => ((((((mulR 2 x2).bind fun x5 => (Res.ok (1 + x5))).bind fun x6 => (ixR a1 x6)).bind fun x7 => (Res.ok (x7 - 12))).bind fun x11 => (((((mulR 2 x2).bind fun x8 => (Res.ok (2 + x8))).bind fun x9 => (ixR a1 x9)).bind fun x10 => (ixR [1, 1, 1, 2, 3, 4, 6, 1, 5] x10)).bind fun x12 => (N_law_fraction_i_i x11 x12))).bind fun x13 =>
  (((((mulR a0 (a0 - 1)).bind fun x14 => (Res.ok (x14 + x4))).bind fun x15 => (mulR 2 x15)).bind fun x16 => (Res.ok (1 + x16))).bind fun x17 =>
  ((((ixR a1 x17).bind fun x18 => (Res.ok (x18 - 20))).bind fun x20 => (((ixR a1 (x17 + 1)).bind fun x19 => (ixR [1, 1, 1, 2, 3, 4, 6, 1, 5] x19)).bind fun x21 => (N_law_fraction_i_i x20 x21))).bind fun x22 =>
  (((N_law_added_piiq_piiq x13 x22).bind fun x23 => appR x3 x23).bind fun x24 =>
  Res.ok x24))))) x25 [])).bind fun x26 =>
  ((appR x1 x26).bind fun x27 =>
  Res.ok x27))) x28 [])).bind fun x29 =>
  (Res.ok x29))
end Kx
namespace Kx
open PySem PySem.Spec L2 Da
def F_law_table_rows2 : FS := (fSeq (fSet 2 (fOn gLstD fA0))
    (fSeq (fFor (fR1 (fA (fV 0) fA0)) (gN 3) (fFgt [3, 4, 5, 6, 7] (fSeq (fSet 4 (fOn gLstD fA0))
    (fSeq (fFor (fR1 (fA (fV 0) fA0)) (gN 5) (fFgt [5, 6, 7] (fSeq (fSet 6 (f2 dAdd (fC (.int 1)) (f2 dMul (fC (.int 2)) (f2 dAdd (f2 dMul (fV 0) (fV 3)) (fV 5)))))
    (fSeq (fSet 7 (f2 dIx (fOn gLstD (fA (f2 dSub (f2 dIx (fV 1) (fV 6)) (fC (.int 12))) (fA (f2 dMod (f2 dIx (fV 1) (fV 6)) (fC (.int 3))) (fA (f2 dMod (f2 dIx (fV 1) (fV 6)) (fC (.int 2))) (fA (f2 dSub (f2 dIx (fV 1) (fV 6)) (fC (.int 12))) (fA (f2 dDiv (f2 dIx (fV 1) (fV 6)) (fC (.int 5))) (fA (f2 dSub (f2 dIx (fV 1) (fV 6)) (fC (.int 20))) (fA (f2 dIx (fV 1) (fV 6)) fA0)))))))) (f2 dIx (fV 1) (fC (.int 0)))))
    (fApp 4 (fOn (chk 2 m_law_fraction) (fA (fV 7) (fA (f2 dIx (fOn gLstD (fA (fC (.int 1)) (fA (fC (.int 1)) (fA (fC (.int 1)) (fA (fC (.int 2)) (fA (fC (.int 3)) (fA (fC (.int 4)) (fA (fC (.int 6)) (fA (fC (.int 1)) (fA (fC (.int 5)) fA0)))))))))) (f2 dIx (fV 1) (f2 dAdd (fV 6) (fC (.int 1))))) fA0))))))))
    (fAppMv 2 4)))))
    (fRet (fV 2))))
def m_law_table_rows2 : List D → Res D := runF 8 (.tr 2 none none) F_law_table_rows2
def F_law_split_rows2 : FS := (fSeq (fSet 2 (fOn gLstD fA0))
    (fSeq (fFor (fR1 (fA (fV 0) fA0)) (gN 3) (fFgt [3, 4, 5, 6, 7, 8] (fSeq (fSet 4 (fOn gLstD fA0))
    (fSeq (fFor (fR1 (fA (fV 0) fA0)) (gN 5) (fFgt [5, 6, 7, 8] (fSeq (fSet 6 (fOn (chk 2 m_law_fraction) (fA (f2 dSub (f2 dIx (fV 1) (f2 dAdd (fC (.int 1)) (f2 dMul (fC (.int 2)) (fV 3)))) (fC (.int 12))) (fA (f2 dIx (fOn gLstD (fA (fC (.int 1)) (fA (fC (.int 1)) (fA (fC (.int 1)) (fA (fC (.int 2)) (fA (fC (.int 3)) (fA (fC (.int 4)) (fA (fC (.int 6)) (fA (fC (.int 1)) (fA (fC (.int 5)) fA0)))))))))) (f2 dIx (fV 1) (f2 dAdd (fC (.int 2)) (f2 dMul (fC (.int 2)) (fV 3))))) fA0))))
    (fSeq (fSet 7 (f2 dAdd (fC (.int 1)) (f2 dMul (fC (.int 2)) (f2 dAdd (f2 dMul (fV 0) (f2 dSub (fV 0) (fC (.int 1)))) (fV 5)))))
    (fSeq (fSet 8 (fOn (chk 2 m_law_fraction) (fA (f2 dSub (f2 dIx (fV 1) (fV 7)) (fC (.int 20))) (fA (f2 dIx (fOn gLstD (fA (fC (.int 1)) (fA (fC (.int 1)) (fA (fC (.int 1)) (fA (fC (.int 2)) (fA (fC (.int 3)) (fA (fC (.int 4)) (fA (fC (.int 6)) (fA (fC (.int 1)) (fA (fC (.int 5)) fA0)))))))))) (f2 dIx (fV 1) (f2 dAdd (fV 7) (fC (.int 1))))) fA0))))
    (fApp 4 (fOn (chk 2 m_law_added) (fA (fV 6) (fA (fV 8) fA0)))))))))
    (fAppMv 2 4)))))
    (fRet (fV 2))))
def m_law_split_rows2 : List D → Res D := runF 9 (.tr 2 none none) F_law_split_rows2
def F_law_drawn_rows2 : FS := (fSeq (fSet 1 (fOn (chk 2 m_law_digits) (fA (fOn (chk 2 m_law_cell) (fA (fV 0) (fA (fC (.int 0)) fA0))) (fA (fOn gLstD (fA (fC (.int 7)) (fA (fC (.int 5)) (fA (fC (.int 60)) (fA (fC (.int 60)) (fA (fC (.int 7)) (fA (fC (.int 2)) fA0))))))) fA0))))
    (fSeq (fSet 2 (f2 dAdd (fC (.int 1)) (f2 dIx (fV 1) (fC (.int 1)))))
    (fSeq (fSet 3 (fOn (chk 2 m_law_digits) (fA (fOn (chk 2 m_law_cell) (fA (fV 0) (fA (fC (.int 1)) fA0))) (fA (f2 dAddL (fOn gLstD (fA (fC (.int 7)) fA0)) (f2 dRep (fOn gLstD (fA (fC (.int 40)) (fA (fC (.int 9)) fA0))) (fC (.int 25)))) fA0))))
    (fSeq (fSet 4 (fOn (chk 2 m_law_table_rows2) (fA (fV 2) (fA (fV 3) fA0))))
    (fSeq (fFgt [] (fIfS (fB (f2 dGe (f2 dIx (fV 1) (fC (.int 0))) (fC (.int 2)))) (fSet 4 (fOn (chk 2 m_law_split_rows2) (fA (fV 2) (fA (fV 3) fA0)))) fNext))
    (fSeq (fFgt [] (fIfS (fB (f2 dEq (f2 dIx (fV 1) (fC (.int 0))) (fC (.int 6)))) (fSeq (fSet 2 (f2 dAdd (fC (.int 6)) (f2 dIx (fV 1) (fC (.int 4)))))
    (fSet 4 (fLc [6] (fR1 (fA (fV 2) fA0)) (gN 6) fYes (fLc [7] (fR1 (fA (fV 2) fA0)) (gN 7) fYes (fOn gTupD (fA (f2 dSub (f2 dAdd (f2 dIx (fV 3) (f2 dAdd (fC (.int 1)) (fV 6))) (f2 dIx (fV 3) (f2 dAdd (f2 dAdd (fC (.int 1)) (fV 2)) (fV 7)))) (fC (.int 20))) (fA (fC (.int 1)) fA0))))))) fNext))
    (fSeq (fFgt [5] (fIfS (fOr (fB (f2 dEq (f2 dIx (fV 1) (fC (.int 0))) (fC (.int 5)))) (fAnd (fB (f2 dEq (f2 dIx (fV 1) (fC (.int 0))) (fC (.int 6)))) (fB (f2 dEq (f2 dIx (fV 1) (fC (.int 5))) (fC (.int 0)))))) (fBor 4 5 (f2 dMod (f2 dIx (fV 1) (fC (.int 2))) (fV 2)) (fun k1 => (fSeq (fSetIx 5 (fOn (chk 2 m_law_added) (fA (f2 dIx (fV 5) (f2 dMod (f2 dIx (fV 1) (fC (.int 3))) (fV 2))) (fA (fOn gTupD (fA (fC (.int 1)) (fA (f2 dAdd (fC (.int 1)) (f2 dMod (f2 dIx (fV 1) (fC (.int 3))) (fC (.int 5)))) fA0))) fA0))) (f2 dMod (f2 dIx (fV 1) (fC (.int 3))) (fV 2)))
    (fGive 4 5 k1 fNext)))) fNext))
    (fRet (fV 4)))))))))
def m_law_drawn_rows2 : List D → Res D := runF 8 .sh F_law_drawn_rows2
def F_weighed : FS := (fSeq (fSet 2 (fOn (on1 dSumT) (fA (fV 1) fA0)))
    (fRet (fOn (chk 1 m_fraction_sum) (fA (fLc [3, 4] (fZip3 (fA (fV 0) (fA (fV 1) fA0))) (gT (gsC (gN 3) (gsC (gN 4) gs0))) fYes (fOn (chk 2 m_ratio) (fA (f2 dMul (f2 dIx (fV 3) (fC (.int 0))) (fV 4)) (fA (f2 dMul (f2 dIx (fV 3) (fC (.int 1))) (fV 2)) fA0)))) fA0))))
def m_weighed : List D → Res D := runF 5 .sh F_weighed
def F_Table_turned : FS := (fRet (fOn (chk 1 m_Table_init) (fA (fOn (chk 1 m_turned_rows) (fA (f1 (dFld "Table" "rows") (fV 0)) fA0)) fA0)))
def m_Table_turned : List D → Res D := runF 1 .sh F_Table_turned
def F_halfway_table : FS := (fSeq (fSet 1 (fOn (chk 2 m_checked_lot) (fA (fOn (chk 1 m_frozen) (fA (fV 1) fA0)) (fA (f1 (dFld "Table" "size") (fV 0)) fA0))))
    (fSeq (fSet 2 (fLc [4] (fL (f1 (dFld "Table" "rows") (fV 0))) (gN 4) fYes (fOn (chk 2 m_weighed) (fA (fV 4) (fA (fV 1) fA0)))))
    (fSeq (fSet 3 (fLc [5] (fL (f1 (dFld "Table" "rows") (fMeth "Table" "turned" 1 m_Table_turned (fV 0) fA0))) (gN 5) fYes (fOn (chk 2 m_weighed) (fA (fV 5) (fA (fV 1) fA0)))))
    (fRet (fOn (chk 1 m_Table_init) (fA (fLc [6] (fL (fV 2)) (gN 6) fYes (fLc [7] (fL (fV 3)) (gN 7) fYes (fOn (chk 2 m_added) (fA (fV 6) (fA (fV 7) fA0))))) fA0))))))
def m_halfway_table : List D → Res D := runF 8 .sh F_halfway_table
def F_law_weighed : FS := (fSeq (fSet 2 (fOn gTupD (fA (fC (.int 0)) (fA (fC (.int 1)) fA0))))
    (fSeq (fFor (fR1 (fA (fOn (on1 dLen) (fA (fV 1) fA0)) fA0)) (gN 3) (fFgt [3] (fSet 2 (fOn (chk 2 m_law_added) (fA (fV 2) (fA (fOn (chk 2 m_law_timed) (fA (f2 dIx (fV 0) (fV 3)) (fA (fOn gTupD (fA (f2 dIx (fV 1) (fV 3)) (fA (fC (.int 1)) fA0))) fA0))) fA0))))))
    (fRet (fOn (chk 2 m_law_fraction) (fA (f2 dIx (fV 2) (fC (.int 0))) (fA (f2 dMul (f2 dIx (fV 2) (fC (.int 1))) (fOn (on1 dSum) (fA (fV 1) fA0))) fA0))))))
def m_law_weighed : List D → Res D := runF 4 .sh F_law_weighed
def F_Table_eq : FS := (fRet (fBv (fAnd (fB (f1 (dIsC [("Table", true)]) (fV 1))) (fB (f2 dEq (f1 (dFld "Table" "rows") (fV 0)) (f1 (dFld "Table" "rows") (fV 1)))))))
def m_Table_eq : List D → Res D := runF 2 .sh F_Table_eq
def F_joined_rows : FS := (fSeq (fSet 3 (fOn gLstD fA0))
    (fSeq (fFor (fR1 (fA (fOn (on1 dLen) (fA (fV 0) fA0)) fA0)) (gN 4) (fFgt [4, 5, 6] (fSeq (fSet 5 (fOn gLstD fA0))
    (fSeq (fFor (fR1 (fA (fOn (on1 dLen) (fA (fV 0) fA0)) fA0)) (gN 6) (fFgt [6] (fFgt [] (fIfS (fB (f2 dLt (fV 2) (fC (.int 0)))) (fApp 5 (fOn (chk 2 m_less) (fA (f2 dIx (f2 dIx (fV 0) (fV 4)) (fV 6)) (fA (f2 dIx (f2 dIx (fV 1) (fV 4)) (fV 6)) fA0)))) (fApp 5 (fOn (chk 2 m_added) (fA (f2 dIx (f2 dIx (fV 0) (fV 4)) (fV 6)) (fA (f2 dIx (f2 dIx (fV 1) (fV 4)) (fV 6)) fA0))))))))
    (fApp 3 (fOn (on1 dTuple) (fA (fV 5) fA0)))))))
    (fRet (fOn (on1 dTuple) (fA (fV 3) fA0)))))
def m_joined_rows : List D → Res D := runF 7 .sh F_joined_rows
def F_Table_add : FS := (fSeq (fIfS (fB (f2 dNe (fOn (on1 dLen) (fA (f1 (dFld "Table" "rows") (fV 0)) fA0)) (fOn (on1 dLen) (fA (f1 (dFld "Table" "rows") (fV 1)) fA0)))) (fRaise "SizesDiffer" ["one", "two"] (fA (fOn (on1 dLen) (fA (f1 (dFld "Table" "rows") (fV 0)) fA0)) (fA (fOn (on1 dLen) (fA (f1 (dFld "Table" "rows") (fV 1)) fA0)) fA0))) fNext)
    (fRet (fOn (chk 1 m_Table_init) (fA (fOn (chk 3 m_joined_rows) (fA (f1 (dFld "Table" "rows") (fV 0)) (fA (f1 (dFld "Table" "rows") (fV 1)) (fA (fC (.int 1)) fA0)))) fA0))))
def m_Table_add : List D → Res D := runF 2 .sh F_Table_add
def F_constant_load : FS := (fSeq (fSet 1 (fOn (chk 2 m_checked_lot) (fA (fOn (chk 1 m_frozen) (fA (fV 1) fA0)) (fA (f1 (dFld "Table" "size") (fV 0)) fA0))))
    (fSeq (fSet 2 (fLc [3, 4] (fZip (fA (f1 (dProp "Table" m_Table_row_sums) (fV 0)) (fA (f1 (dProp "Table" m_Table_column_sums) (fV 0)) fA0))) (gT (gsC (gN 3) (gsC (gN 4) gs0))) fYes (fOn (chk 2 m_added) (fA (fV 3) (fA (fV 4) fA0)))))
    (fRet (fOn (chk 2 m_weighed) (fA (fV 2) (fA (fV 1) fA0))))))
def m_constant_load : List D → Res D := runF 5 .sh F_constant_load
def F_plain_table : FS := (fRet (fOn (chk 1 m_Table_init) (fA (fLc [2] (fR1 (fA (fV 0) fA0)) (gN 2) fYes (fLc [3] (fR1 (fA (fV 0) fA0)) (gN 3) fYes (fOn (chk 1 m_frozen) (fA (fV 1) fA0)))) fA0)))
def m_plain_table : List D → Res D := runF 4 .sh F_plain_table
def F_even_lot : FS := (fSeq (fIfS (fNot (fB (fChain dLe dLe (fC (.int 1)) (fV 0) (fC (.int 24))))) (fRaise "BadSize" ["size"] (fA (fV 0) fA0)) fNext)
    (fRet (fOn (on1 dTuple) (fA (fLc [1] (fR1 (fA (fV 0) fA0)) (gN 1) fYes (fC (.int 1))) fA0))))
def m_even_lot : List D → Res D := runF 2 .sh F_even_lot
def F_law : FS := (fSeq (fSet 1 (fOn (chk 1 m_law_drawn_rows2) (fA (fV 0) fA0)))
    (fSeq (fSet 2 (fOn (on1 dLen) (fA (fV 1) fA0)))
    (fSeq (fSet 3 (fOn (chk 1 m_Table_init) (fA (fV 1) fA0)))
    (fSeq (fSet 4 (fLc [22] (fR1 (fA (fV 2) fA0)) (gN 22) fYes (fC (.int 1))))
    (fSeq (fSet 5 (fOn (chk 2 m_halfway_table) (fA (fV 3) (fA (fV 4) fA0))))
    (fSeq (fSet 6 (fLc [23] (fR1 (fA (fV 2) fA0)) (gN 23) fYes (fLc [24] (fL (fV 1)) (gN 24) fYes (f2 dIx (fV 24) (fV 23)))))
    (fSeq (fSet 7 (fLc [24] (fL (fV 1)) (gN 24) fYes (fOn (chk 1 m_law_sum) (fA (fV 24) fA0))))
    (fSeq (fSet 8 (fLc [25] (fL (fV 6)) (gN 25) fYes (fOn (chk 1 m_law_sum) (fA (fV 25) fA0))))
    (fSeq (fSet 9 (fOn gLstD fA0))
    (fSeq (fFor (fR1 (fA (fV 2) fA0)) (gN 10) (fFgt [10] (fApp 9 (fLc [23] (fR1 (fA (fV 2) fA0)) (gN 23) fYes (fOn (chk 2 m_law_timed) (fA (fOn (chk 2 m_law_added) (fA (f2 dIx (fV 7) (fV 10)) (fA (f2 dIx (fV 8) (fV 23)) fA0))) (fA (fOn gTupD (fA (fC (.int 1)) (fA (fV 2) fA0))) fA0)))))))
    (fSeq (fIfS (fNot (fNx (fTr (fOn (chk 2 m_law_same) (fA (f1 (dFld "Table" "rows") (fV 5)) (fA (fV 9) fA0)))))) (fRet (fC (.bl false))) fNext)
    (fSeq (fSet 11 (fOn (chk 1 m_law_total) (fA (fV 1) fA0)))
    (fSeq (fSet 12 (fOn (chk 2 m_law_fraction) (fA (f2 dIx (fV 11) (fC (.int 0))) (fA (f2 dMul (f2 dMul (f2 dIx (fV 11) (fC (.int 1))) (fV 2)) (fV 2)) fA0))))
    (fSeq (fSet 13 (fLc [24] (fL (fV 1)) (gN 24) fYes (fLc [27] (fL (fV 24)) (gN 27) fYes (fOn (chk 2 m_law_added) (fA (fV 27) (fA (fV 12) fA0))))))
    (fSeq (fSet 14 (f1 dIsN (fOn (chk 1 m_law_break) (fA (fV 1) fA0))))
    (fSeq (fIfS (fOr (fB (f2 dNe (fSc (f2 dEq (fV 9) (fV 13))) (fV 14))) (fB (f2 dNe (f2 (dEqO "Table" m_Table_eq) (fV 5) (f2 (dBinO "Table" m_Table_add) (fV 3) (fOn (chk 2 m_plain_table) (fA (fV 2) (fA (fV 12) fA0))))) (fV 14)))) (fRet (fC (.bl false))) fNext)
    (fSeq (fSet 15 (fOn (chk 2 m_law_fraction) (fA (f2 dMul (fC (.int 2)) (f2 dIx (fV 11) (fC (.int 0)))) (fA (f2 dMul (f2 dIx (fV 11) (fC (.int 1))) (fV 2)) fA0))))
    (fSeq (fIfS (fOr (fNot (fTr (fOn (chk 2 m_law_same) (fA (fOn (chk 2 m_constant_load) (fA (fV 3) (fA (fOn (chk 1 m_even_lot) (fA (fV 2) fA0)) fA0))) (fA (fV 15) fA0))))) (fNot (fTr (fOn (chk 2 m_law_same) (fA (fOn (chk 2 m_law_timed) (fA (f1 (dProp "Table" m_Table_mean_day) (fV 3)) (fA (fOn gTupD (fA (fC (.int 2)) (fA (fC (.int 1)) fA0))) fA0))) (fA (fV 15) fA0)))))) (fRet (fC (.bl false))) fNext)
    (fSeq (fSet 16 (fOn (chk 2 m_law_any_lot) (fA (fV 2) (fA (fOn (chk 2 m_law_digits) (fA (fOn (chk 2 m_law_cell) (fA (fV 0) (fA (fC (.int 2)) fA0))) (fA (f2 dAddL (fOn gLstD (fA (fC (.int 3)) fA0)) (f2 dRep (fOn gLstD (fA (fC (.int 1001)) fA0)) (fV 2))) fA0))) fA0))))
    (fSeq (fSet 17 (fLc [24] (fL (fV 1)) (gN 24) fYes (fOn (chk 2 m_law_weighed) (fA (fV 24) (fA (fV 16) fA0)))))
    (fSeq (fSet 18 (fLc [25] (fL (fV 6)) (gN 25) fYes (fOn (chk 2 m_law_weighed) (fA (fV 25) (fA (fV 16) fA0)))))
    (fSeq (fSet 19 (fLc [26] (fL (fV 17)) (gN 26) fYes (fLc [28] (fL (fV 18)) (gN 28) fYes (fOn (chk 2 m_law_added) (fA (fV 26) (fA (fV 28) fA0))))))
    (fSeq (fSet 20 (fOn (chk 2 m_law_weighed) (fA (fLc [22] (fR1 (fA (fV 2) fA0)) (gN 22) fYes (fOn (chk 2 m_law_added) (fA (f2 dIx (fV 7) (fV 22)) (fA (f2 dIx (fV 8) (fV 22)) fA0)))) (fA (fV 16) fA0))))
    (fSeq (fIfS (fOr (fNot (fNx (fTr (fOn (chk 2 m_law_same) (fA (f1 (dFld "Table" "rows") (fOn (chk 2 m_halfway_table) (fA (fV 3) (fA (fV 16) fA0)))) (fA (fV 19) fA0)))))) (fNot (fTr (fOn (chk 2 m_law_same) (fA (fOn (chk 2 m_constant_load) (fA (fV 3) (fA (fV 16) fA0))) (fA (fV 20) fA0)))))) (fRet (fC (.bl false))) fNext)
    (fSeq (fSet 21 (fOn (chk 2 m_law_day) (fA (fV 2) (fA (fOn (chk 2 m_law_digits) (fA (fOn (chk 2 m_law_cell) (fA (fV 0) (fA (fC (.int 3)) fA0))) (fA (f2 dRep (fOn gLstD (fA (fC (.int 24)) fA0)) (fV 2)) fA0))) fA0))))
    (fRet (fOn (chk 2 m_law_same) (fA (fOn (chk 2 m_day_sum) (fA (fOn (chk 2 m_halfway_table) (fA (fV 3) (fA (fV 16) fA0))) (fA (fV 21) fA0))) (fA (fV 20) fA0)))))))))))))))))))))))))))))
def m_law : List D → Res D := runF 29 .sh F_law
def N_law_table_rows2_i_li (a0 : Int) (a1 : (List Int)) : Res (List (List (Int × Int))) :=
  (((rngR a0).bind fun x32 => (forR (σ := (List (List (Int × Int)))) (fun x1 x2 => (((rngR a0).bind fun x29 => (forR (σ := (List (Int × Int))) (fun x3 x4 => (((((mulR a0 x2).bind fun x5 => (Res.ok (x5 + x4))).bind fun x6 => (mulR 2 x6)).bind fun x7 => (Res.ok (1 + x7))).bind fun x8 =>
  (((((ixR a1 x8).bind fun x9 => (Res.ok (x9 - 12))).bind fun x15 => (((ixR a1 x8).bind fun x10 => (Res.ok (x10 % 3))).bind fun x16 => (((ixR a1 x8).bind fun x11 => (Res.ok (x11 % 2))).bind fun x17 => (((ixR a1 x8).bind fun x12 => (Res.ok (x12 - 12))).bind fun x18 => (((ixR a1 x8).bind fun x13 => (Res.ok (x13 / 5))).bind fun x19 => (((ixR a1 x8).bind fun x14 => (Res.ok (x14 - 20))).bind fun x20 => ((ixR a1 x8).bind fun x21 => (Res.ok [x15, x16, x17, x18, x19, x20, x21])))))))).bind fun x22 => ((ixR a1 0).bind fun x23 => (ixR x22 x23))).bind fun x24 =>
  (((((ixR a1 (x8 + 1)).bind fun x25 => (ixR [1, 1, 1, 2, 3, 4, 6, 1, 5] x25)).bind fun x26 => (N_law_fraction_i_i x24 x26)).bind fun x27 => appR x3 x27).bind fun x28 =>
  Res.ok x28)))) x29 [])).bind fun x30 =>
  ((appR x1 x30).bind fun x31 =>
  Res.ok x31))) x32 [])).bind fun x33 =>
  (Res.ok x33))
theorem n_law_table_rows2_i_li (a0 : Int) (a1 : (List Int)) : Rf (m_law_table_rows2 [D.int a0, (eL D.int) a1]) (N_law_table_rows2_i_li a0 a1) (eL (eL (eP2 D.int D.int))) :=
  n_runF ((t_seqp [some (D.int a0), some ((eL D.int) a1), some ((eL (eL (eP2 D.int D.int))) []), none, none, none, none, none] (set_p rfl rfl) (t_seq fin_F (fun x33 : (List (List (Int × Int))) => [some (D.int a0), some ((eL D.int) a1), some ((eL (eL (eP2 D.int D.int))) x33), none, none, none, none, none]) (s_for (ex := D.int) (s0 := []) (q_R1 (a_p rfl (a_0 k_R1))) (fun x1 : (List (List (Int × Int))) => [some (D.int a0), some ((eL D.int) a1), some ((eL (eL (eP2 D.int D.int))) x1), none, none, none, none, none]) (fun (x1 : (List (List (Int × Int)))) (x2 : Int) => [some (D.int a0), some ((eL D.int) a1), some ((eL (eL (eP2 D.int D.int))) x1), some (D.int x2), none, none, none, none]) rfl (fun _ _ => rfl) fun x1 x2 =>
  (t_assoc (t_seqp [some (D.int a0), some ((eL D.int) a1), some ((eL (eL (eP2 D.int D.int))) x1), some (D.int x2), some ((eL (eP2 D.int D.int)) []), none, none, none] (set_p rfl rfl) (t_assoc (t_seq fin_L (fun x30 : (List (Int × Int)) => [some (D.int a0), some ((eL D.int) a1), some ((eL (eL (eP2 D.int D.int))) x1), some (D.int x2), some ((eL (eP2 D.int D.int)) x30), none, none, none]) (s_for (ex := D.int) (s0 := []) (q_R1 (a_p rfl (a_0 k_R1))) (fun x3 : (List (Int × Int)) => [some (D.int a0), some ((eL D.int) a1), some ((eL (eL (eP2 D.int D.int))) x1), some (D.int x2), some ((eL (eP2 D.int D.int)) x3), none, none, none]) (fun (x3 : (List (Int × Int))) (x4 : Int) => [some (D.int a0), some ((eL D.int) a1), some ((eL (eL (eP2 D.int D.int))) x1), some (D.int x2), some ((eL (eP2 D.int D.int)) x3), some (D.int x4), none, none]) rfl (fun _ _ => rfl) fun x3 x4 =>
  (t_assoc (t_seq fin_L (fun x8 : Int => [some (D.int a0), some ((eL D.int) a1), some ((eL (eL (eP2 D.int D.int))) x1), some (D.int x2), some ((eL (eP2 D.int D.int)) x3), some (D.int x4), some (D.int x8), none]) (s_set (e := D.int) _ (q_f2 (b_p rfl (b_i (q_f2 (b_p rfl (b_i (q_f2 (b_i (q_f2 (b_p rfl (b_p rfl op_mul))) fun x5 => (b_p rfl (rf_ok rfl)))) fun x6 => op_mul))) fun x7 => (rf_ok rfl)))) fun _ => rfl) fun x8 =>
  (t_assoc (t_seq fin_L (fun x24 : Int => [some (D.int a0), some ((eL D.int) a1), some ((eL (eL (eP2 D.int D.int))) x1), some (D.int x2), some ((eL (eP2 D.int D.int)) x3), some (D.int x4), some (D.int x8), some (D.int x24)]) (s_set (e := D.int) _ (q_f2 (b_i (q_on (a_i (q_f2 (b_i (q_f2 (b_p rfl (b_p rfl op_ixL))) fun x9 => (b_p rfl (rf_ok rfl)))) fun x15 => (a_i (q_f2 (b_i (q_f2 (b_p rfl (b_p rfl op_ixL))) fun x10 => (b_p rfl (rf_ok (op_modp (by decide)))))) fun x16 => (a_i (q_f2 (b_i (q_f2 (b_p rfl (b_p rfl op_ixL))) fun x11 => (b_p rfl (rf_ok (op_modp (by decide)))))) fun x17 => (a_i (q_f2 (b_i (q_f2 (b_p rfl (b_p rfl op_ixL))) fun x12 => (b_p rfl (rf_ok rfl)))) fun x18 => (a_i (q_f2 (b_i (q_f2 (b_p rfl (b_p rfl op_ixL))) fun x13 => (b_p rfl (rf_ok (op_divp (by decide) (by decide)))))) fun x19 => (a_i (q_f2 (b_i (q_f2 (b_p rfl (b_p rfl op_ixL))) fun x14 => (b_p rfl (rf_ok rfl)))) fun x20 => (a_i (q_f2 (b_p rfl (b_p rfl op_ixL))) fun x21 => (a_0 (rf_ok rfl)))))))))) fun x22 => (b_i (q_f2 (b_p rfl (b_p rfl op_ixL))) fun x23 => op_ixL))) fun _ => rfl) fun x24 =>
  (t_seq fin_L (fun x28 : (List (Int × Int)) => [some (D.int a0), some ((eL D.int) a1), some ((eL (eL (eP2 D.int D.int))) x1), some (D.int x2), some ((eL (eP2 D.int D.int)) x28), some (D.int x4), some (D.int x8), some (D.int x24)]) (s_appI (e := (eP2 D.int D.int)) (xs := x3) (fun ys : (List (Int × Int)) => [some (D.int a0), some ((eL D.int) a1), some ((eL (eL (eP2 D.int D.int))) x1), some (D.int x2), some ((eL (eP2 D.int D.int)) ys), some (D.int x4), some (D.int x8), some (D.int x24)]) rfl (q_on (a_p rfl (a_i (q_f2 (b_p rfl (b_i (q_f2 (b_p rfl (b_p rfl op_ixL))) fun x25 => (op_ixL (e := D.int) (xs := [1, 1, 1, 2, 3, 4, 6, 1, 5]))))) fun x26 => (a_0 (rf_chk (n_law_fraction_i_i x24 x26) rfl))))) fun _ => rfl) fun x28 =>
  (t_next rfl))))))) fun x30 =>
  (t_seq fin_L (fun x31 : (List (List (Int × Int))) => [some (D.int a0), some ((eL D.int) a1), some ((eL (eL (eP2 D.int D.int))) x31), some (D.int x2), none, none, none, none]) (s_appMv (e := (eL (eP2 D.int D.int))) (xs := x1) (d := x30) (fun ys : (List (List (Int × Int))) => [some (D.int a0), some ((eL D.int) a1), some ((eL (eL (eP2 D.int D.int))) ys), some (D.int x2), none, none, none, none]) rfl rfl fun _ => rfl) fun x31 =>
  (t_next rfl))))))) fun x33 =>
  (t_end (t_retF (rf_ok (e := (eL (eL (eP2 D.int D.int)))) rfl))))))
def N_law_split_rows2_i_li (a0 : Int) (a1 : (List Int)) : Res (List (List (Int × Int))) :=
  (((rngR a0).bind fun x28 => (forR (σ := (List (List (Int × Int)))) (fun x1 x2 => (((rngR a0).bind fun x25 => (forR (σ := (List (Int × Int))) (fun x3 x4 => ((((((mulR 2 x2).bind fun x5 => (Res.ok (1 + x5))).bind fun x6 => (ixR a1 x6)).bind fun x7 => (Res.ok (x7 - 12))).bind fun x11 => (((((mulR 2 x2).bind fun x8 => (Res.ok (2 + x8))).bind fun x9 => (ixR a1 x9)).bind fun x10 => (ixR [1, 1, 1, 2, 3, 4, 6, 1, 5] x10)).bind fun x12 => (N_law_fraction_i_i x11 x12))).bind fun x13 =>
  (((((mulR a0 (a0 - 1)).bind fun x14 => (Res.ok (x14 + x4))).bind fun x15 => (mulR 2 x15)).bind fun x16 => (Res.ok (1 + x16))).bind fun x17 =>
  ((((ixR a1 x17).bind fun x18 => (Res.ok (x18 - 20))).bind fun x20 => (((ixR a1 (x17 + 1)).bind fun x19 => (ixR [1, 1, 1, 2, 3, 4, 6, 1, 5] x19)).bind fun x21 => (N_law_fraction_i_i x20 x21))).bind fun x22 =>
  (((N_law_added_piiq_piiq x13 x22).bind fun x23 => appR x3 x23).bind fun x24 =>
  Res.ok x24))))) x25 [])).bind fun x26 =>
  ((appR x1 x26).bind fun x27 =>
  Res.ok x27))) x28 [])).bind fun x29 =>
  (Res.ok x29))
theorem n_law_split_rows2_i_li (a0 : Int) (a1 : (List Int)) : Rf (m_law_split_rows2 [D.int a0, (eL D.int) a1]) (N_law_split_rows2_i_li a0 a1) (eL (eL (eP2 D.int D.int))) :=
  n_runF ((t_seqp [some (D.int a0), some ((eL D.int) a1), some ((eL (eL (eP2 D.int D.int))) []), none, none, none, none, none, none] (set_p rfl rfl) (t_seq fin_F (fun x29 : (List (List (Int × Int))) => [some (D.int a0), some ((eL D.int) a1), some ((eL (eL (eP2 D.int D.int))) x29), none, none, none, none, none, none]) (s_for (ex := D.int) (s0 := []) (q_R1 (a_p rfl (a_0 k_R1))) (fun x1 : (List (List (Int × Int))) => [some (D.int a0), some ((eL D.int) a1), some ((eL (eL (eP2 D.int D.int))) x1), none, none, none, none, none, none]) (fun (x1 : (List (List (Int × Int)))) (x2 : Int) => [some (D.int a0), some ((eL D.int) a1), some ((eL (eL (eP2 D.int D.int))) x1), some (D.int x2), none, none, none, none, none]) rfl (fun _ _ => rfl) fun x1 x2 =>
  (t_assoc (t_seqp [some (D.int a0), some ((eL D.int) a1), some ((eL (eL (eP2 D.int D.int))) x1), some (D.int x2), some ((eL (eP2 D.int D.int)) []), none, none, none, none] (set_p rfl rfl) (t_assoc (t_seq fin_L (fun x26 : (List (Int × Int)) => [some (D.int a0), some ((eL D.int) a1), some ((eL (eL (eP2 D.int D.int))) x1), some (D.int x2), some ((eL (eP2 D.int D.int)) x26), none, none, none, none]) (s_for (ex := D.int) (s0 := []) (q_R1 (a_p rfl (a_0 k_R1))) (fun x3 : (List (Int × Int)) => [some (D.int a0), some ((eL D.int) a1), some ((eL (eL (eP2 D.int D.int))) x1), some (D.int x2), some ((eL (eP2 D.int D.int)) x3), none, none, none, none]) (fun (x3 : (List (Int × Int))) (x4 : Int) => [some (D.int a0), some ((eL D.int) a1), some ((eL (eL (eP2 D.int D.int))) x1), some (D.int x2), some ((eL (eP2 D.int D.int)) x3), some (D.int x4), none, none, none]) rfl (fun _ _ => rfl) fun x3 x4 =>
  (t_assoc (t_seq fin_L (fun x13 : (Int × Int) => [some (D.int a0), some ((eL D.int) a1), some ((eL (eL (eP2 D.int D.int))) x1), some (D.int x2), some ((eL (eP2 D.int D.int)) x3), some (D.int x4), some ((eP2 D.int D.int) x13), none, none]) (s_set (e := (eP2 D.int D.int)) _ (q_on (a_i (q_f2 (b_i (q_f2 (b_p rfl (b_i (q_f2 (b_p rfl (b_i (q_f2 (b_p rfl (b_p rfl op_mul))) fun x5 => (rf_ok rfl)))) fun x6 => op_ixL))) fun x7 => (b_p rfl (rf_ok rfl)))) fun x11 => (a_i (q_f2 (b_p rfl (b_i (q_f2 (b_p rfl (b_i (q_f2 (b_p rfl (b_i (q_f2 (b_p rfl (b_p rfl op_mul))) fun x8 => (rf_ok rfl)))) fun x9 => op_ixL))) fun x10 => (op_ixL (e := D.int) (xs := [1, 1, 1, 2, 3, 4, 6, 1, 5]))))) fun x12 => (a_0 (rf_chk (n_law_fraction_i_i x11 x12) rfl))))) fun _ => rfl) fun x13 =>
  (t_assoc (t_seq fin_L (fun x17 : Int => [some (D.int a0), some ((eL D.int) a1), some ((eL (eL (eP2 D.int D.int))) x1), some (D.int x2), some ((eL (eP2 D.int D.int)) x3), some (D.int x4), some ((eP2 D.int D.int) x13), some (D.int x17), none]) (s_set (e := D.int) _ (q_f2 (b_p rfl (b_i (q_f2 (b_p rfl (b_i (q_f2 (b_i (q_f2 (b_p rfl (b_p rfl op_mul))) fun x14 => (b_p rfl (rf_ok rfl)))) fun x15 => op_mul))) fun x16 => (rf_ok rfl)))) fun _ => rfl) fun x17 =>
  (t_assoc (t_seq fin_L (fun x22 : (Int × Int) => [some (D.int a0), some ((eL D.int) a1), some ((eL (eL (eP2 D.int D.int))) x1), some (D.int x2), some ((eL (eP2 D.int D.int)) x3), some (D.int x4), some ((eP2 D.int D.int) x13), some (D.int x17), some ((eP2 D.int D.int) x22)]) (s_set (e := (eP2 D.int D.int)) _ (q_on (a_i (q_f2 (b_i (q_f2 (b_p rfl (b_p rfl op_ixL))) fun x18 => (b_p rfl (rf_ok rfl)))) fun x20 => (a_i (q_f2 (b_p rfl (b_i (q_f2 (b_p rfl (b_p rfl op_ixL))) fun x19 => (op_ixL (e := D.int) (xs := [1, 1, 1, 2, 3, 4, 6, 1, 5]))))) fun x21 => (a_0 (rf_chk (n_law_fraction_i_i x20 x21) rfl))))) fun _ => rfl) fun x22 =>
  (t_seq fin_L (fun x24 : (List (Int × Int)) => [some (D.int a0), some ((eL D.int) a1), some ((eL (eL (eP2 D.int D.int))) x1), some (D.int x2), some ((eL (eP2 D.int D.int)) x24), some (D.int x4), some ((eP2 D.int D.int) x13), some (D.int x17), some ((eP2 D.int D.int) x22)]) (s_appI (e := (eP2 D.int D.int)) (xs := x3) (fun ys : (List (Int × Int)) => [some (D.int a0), some ((eL D.int) a1), some ((eL (eL (eP2 D.int D.int))) x1), some (D.int x2), some ((eL (eP2 D.int D.int)) ys), some (D.int x4), some ((eP2 D.int D.int) x13), some (D.int x17), some ((eP2 D.int D.int) x22)]) rfl (q_on (a_p rfl (a_p rfl (a_0 (rf_chk (n_law_added_piiq_piiq x13 x22) rfl))))) fun _ => rfl) fun x24 =>
  (t_next rfl))))))))) fun x26 =>
  (t_seq fin_L (fun x27 : (List (List (Int × Int))) => [some (D.int a0), some ((eL D.int) a1), some ((eL (eL (eP2 D.int D.int))) x27), some (D.int x2), none, none, none, none, none]) (s_appMv (e := (eL (eP2 D.int D.int))) (xs := x1) (d := x26) (fun ys : (List (List (Int × Int))) => [some (D.int a0), some ((eL D.int) a1), some ((eL (eL (eP2 D.int D.int))) ys), some (D.int x2), none, none, none, none, none]) rfl rfl fun _ => rfl) fun x27 =>
  (t_next rfl))))))) fun x29 =>
  (t_end (t_retF (rf_ok (e := (eL (eL (eP2 D.int D.int)))) rfl))))))
def N_law_drawn_rows2_fi (a0 : (List Int)) : Res (List (List (Int × Int))) :=
  (((N_law_cell_fi_i a0 0).bind fun x1 => (N_law_digits_i_li x1 [7, 5, 60, 60, 7, 2])).bind fun x2 =>
  (((ixR x2 1).bind fun x3 => (Res.ok (1 + x3))).bind fun x4 =>
  (((N_law_cell_fi_i a0 1).bind fun x6 => (((repR [40, 9] 25).bind fun x5 => (catR [7] x5)).bind fun x7 => (N_law_digits_i_li x6 x7))).bind fun x8 =>
  ((N_law_table_rows2_i_li x4 x8).bind fun x9 =>
  ((((ixR x2 0).bind fun x16 => (Res.ok (decide (2 ≤ x16)))).bind fun x18 => if x18 = true then ((N_law_split_rows2_i_li x4 x8).bind fun x17 =>
  Res.ok x17) else
  Res.ok x9).bind fun x19 =>
  ((((ixR x2 0).bind fun x46 => (Res.ok (decide (x46 = 6)))).bind fun x58 => if x58 = true then (((ixR x2 4).bind fun x47 => (Res.ok (6 + x47))).bind fun x48 =>
  (((rngR x48).bind fun x56 => lcR x56 (fun x49 => Res.ok true) (fun x49 => ((rngR x48).bind fun x55 => lcR x55 (fun x50 => Res.ok true) (fun x50 => ((((ixR x8 (1 + x49)).bind fun x51 => ((ixR x8 ((1 + x48) + x50)).bind fun x52 => (Res.ok (x51 + x52)))).bind fun x53 => (Res.ok (x53 - 20))).bind fun x54 => (Res.ok (x54, 1))))))).bind fun x57 =>
  Res.ok (x48, x57))) else
  Res.ok (x4, x19)).bind fun x59 =>
  (((((ixR x2 0).bind fun x102 => (Res.ok (decide (x102 = 5)))).bind fun x106 => (if x106 = true then Res.ok true else (((ixR x2 0).bind fun x103 => (Res.ok (decide (x103 = 6)))).bind fun x105 => (if x105 = true then ((ixR x2 5).bind fun x104 => (Res.ok (decide (x104 = 0)))) else Res.ok false)))).bind fun x122 => if x122 = true then (((ixR x2 2).bind fun x107 => (modR x107 x59.1)).bind fun x121 => borK (borR x59.2 x121) fun (k1 : Nat) (x108 : (List (Int × Int))) => ((((((ixR x2 3).bind fun x109 => (modR x109 x59.1)).bind fun x110 => (ixR x108 x110)).bind fun x114 => (((((ixR x2 3).bind fun x111 => (Res.ok (x111 % 5))).bind fun x112 => (Res.ok (1 + x112))).bind fun x113 => (Res.ok (1, x113))).bind fun x115 => (N_law_added_piiq_piiq x114 x115))).bind fun x117 => (((ixR x2 3).bind fun x116 => (modR x116 x59.1)).bind fun x118 => (setR x108 x118 x117))).bind fun x119 =>
  ((Res.ok (x59.2.set k1 x119)).bind fun x120 =>
  Res.ok x120))) else
  Res.ok x59.2).bind fun x123 =>
  (Res.ok x123))))))))
theorem n_law_drawn_rows2_fi (a0 : (List Int)) : Rf (m_law_drawn_rows2 [(eF D.int) a0]) (N_law_drawn_rows2_fi a0) (eL (eL (eP2 D.int D.int))) :=
  n_runF ((t_seq fin_F (fun x2 : (List Int) => [some ((eF D.int) a0), some ((eL D.int) x2), none, none, none, none, none, none]) (s_set (e := (eL D.int)) _ (q_on (a_i (q_on (a_p rfl (a_p rfl (a_0 (rf_chk (n_law_cell_fi_i a0 0) rfl))))) fun x1 => (a_p rfl (a_0 (rf_chk (n_law_digits_i_li x1 [7, 5, 60, 60, 7, 2]) rfl))))) fun _ => rfl) fun x2 =>
  (t_seq fin_F (fun x4 : Int => [some ((eF D.int) a0), some ((eL D.int) x2), some (D.int x4), none, none, none, none, none]) (s_set (e := D.int) _ (q_f2 (b_p rfl (b_i (q_f2 (b_p rfl (b_p rfl op_ixL))) fun x3 => (rf_ok rfl)))) fun _ => rfl) fun x4 =>
  (t_seq fin_F (fun x8 : (List Int) => [some ((eF D.int) a0), some ((eL D.int) x2), some (D.int x4), some ((eL D.int) x8), none, none, none, none]) (s_set (e := (eL D.int)) _ (q_on (a_i (q_on (a_p rfl (a_p rfl (a_0 (rf_chk (n_law_cell_fi_i a0 1) rfl))))) fun x6 => (a_i (q_f2 (b_p rfl (b_i (q_f2 (b_p rfl (b_p rfl (op_rep (e := D.int))))) fun x5 => (op_catLL (e := D.int))))) fun x7 => (a_0 (rf_chk (n_law_digits_i_li x6 x7) rfl))))) fun _ => rfl) fun x8 =>
  (t_seq fin_F (fun x9 : (List (List (Int × Int))) => [some ((eF D.int) a0), some ((eL D.int) x2), some (D.int x4), some ((eL D.int) x8), some ((eL (eL (eP2 D.int D.int))) x9), none, none, none]) (s_set (e := (eL (eL (eP2 D.int D.int)))) _ (q_on (a_p rfl (a_p rfl (a_0 (rf_chk (n_law_table_rows2_i_li x4 x8) rfl))))) fun _ => rfl) fun x9 =>
  (t_seq fin_F (fun x19 : (List (List (Int × Int))) => [some ((eF D.int) a0), some ((eL D.int) x2), some (D.int x4), some ((eL D.int) x8), some ((eL (eL (eP2 D.int D.int))) x19), none, none, none]) (s_if (o' := (fun s : (List (List (Int × Int))) => Fl.nx [some ((eF D.int) a0), some ((eL D.int) x2), some (D.int x4), some ((eL D.int) x8), some ((eL (eL (eP2 D.int D.int))) s), none, none, none])) (t_ifI fin_S (q_B (b_iB (q_f2 (b_i (q_f2 (b_p rfl (b_p rfl op_ixL))) fun x16 => (b_p rfl (rf_ok rfl)))))) (t_seq fin_S (fun x17 : (List (List (Int × Int))) => [some ((eF D.int) a0), some ((eL D.int) x2), some (D.int x4), some ((eL D.int) x8), some ((eL (eL (eP2 D.int D.int))) x17), none, none, none]) (s_set (e := (eL (eL (eP2 D.int D.int)))) _ (q_on (a_p rfl (a_p rfl (a_0 (rf_chk (n_law_split_rows2_i_li x4 x8) rfl))))) fun _ => rfl) fun x17 =>
  (t_next rfl))
  (t_nextS (t_next rfl)))) fun x19 =>
  (t_seq fin_F (fun x59 : (Int × (List (List (Int × Int)))) => [some ((eF D.int) a0), some ((eL D.int) x2), some (D.int x59.1), some ((eL D.int) x8), some ((eL (eL (eP2 D.int D.int))) x59.2), none, none, none]) (s_if (o' := (fun s : (Int × (List (List (Int × Int)))) => Fl.nx [some ((eF D.int) a0), some ((eL D.int) x2), some (D.int s.1), some ((eL D.int) x8), some ((eL (eL (eP2 D.int D.int))) s.2), none, none, none])) (t_ifI fin_S (q_B (b_iB (q_f2 (b_i (q_f2 (b_p rfl (b_p rfl op_ixL))) fun x46 => (b_p rfl (rf_ok (op_eq (e := D.int) (x := x46) (x' := 6)))))))) (t_assoc (t_seq fin_S (fun x48 : Int => [some ((eF D.int) a0), some ((eL D.int) x2), some (D.int x48), some ((eL D.int) x8), some ((eL (eL (eP2 D.int D.int))) x19), none, none, none]) (s_set (e := D.int) _ (q_f2 (b_p rfl (b_i (q_f2 (b_p rfl (b_p rfl op_ixL))) fun x47 => (rf_ok rfl)))) fun _ => rfl) fun x48 =>
  (t_seq fin_S (fun x57 : (List (List (Int × Int))) => [some ((eF D.int) a0), some ((eL D.int) x2), some (D.int x48), some ((eL D.int) x8), some ((eL (eL (eP2 D.int D.int))) x57), none, none, none]) (s_set (e := (eL (eL (eP2 D.int D.int)))) _ (rf_lc (q_R1 (a_p rfl (a_0 k_R1))) (fun x49 : Int => [some ((eF D.int) a0), some ((eL D.int) x2), some (D.int x48), some ((eL D.int) x8), some ((eL (eL (eP2 D.int D.int))) x19), none, some (D.int x49), none]) (fun _ => rfl) (fun x49 => (rf_ok (v := true) rfl)) (fun x49 => (rf_lc (q_R1 (a_p rfl (a_0 k_R1))) (fun x50 : Int => [some ((eF D.int) a0), some ((eL D.int) x2), some (D.int x48), some ((eL D.int) x8), some ((eL (eL (eP2 D.int D.int))) x19), none, some (D.int x49), some (D.int x50)]) (fun _ => rfl) (fun x50 => (rf_ok (v := true) rfl)) (fun x50 => (q_on (a_i (q_f2 (b_i (q_f2 (b_i (q_f2 (b_p rfl (b_p rfl op_ixL))) fun x51 => (b_i (q_f2 (b_p rfl (b_p rfl op_ixL))) fun x52 => (rf_ok rfl)))) fun x53 => (b_p rfl (rf_ok rfl)))) fun x54 => (a_p rfl (a_0 (rf_ok rfl))))))))) fun _ => rfl) fun x57 =>
  (t_next rfl))))
  (t_nextS (t_next rfl)))) fun x59 =>
  (t_seq fin_F (fun x123 : (List (List (Int × Int))) => [some ((eF D.int) a0), some ((eL D.int) x2), some (D.int x59.1), some ((eL D.int) x8), some ((eL (eL (eP2 D.int D.int))) x123), none, none, none]) (s_if (o' := (fun s : (List (List (Int × Int))) => Fl.nx [some ((eF D.int) a0), some ((eL D.int) x2), some (D.int x59.1), some ((eL D.int) x8), some ((eL (eL (eP2 D.int D.int))) s), none, none, none])) (t_ifI fin_S (rOrI (q_B (b_iB (q_f2 (b_i (q_f2 (b_p rfl (b_p rfl op_ixL))) fun x102 => (b_p rfl (rf_ok (op_eq (e := D.int) (x := x102) (x' := 5)))))))) (rAndI (q_B (b_iB (q_f2 (b_i (q_f2 (b_p rfl (b_p rfl op_ixL))) fun x103 => (b_p rfl (rf_ok (op_eq (e := D.int) (x := x103) (x' := 6)))))))) (q_B (b_iB (q_f2 (b_i (q_f2 (b_p rfl (b_p rfl op_ixL))) fun x104 => (b_p rfl (rf_ok (op_eq (e := D.int) (x := x104) (x' := 0)))))))))) (t_borS (t_borI (e := (eL (eP2 D.int D.int))) (xs := x59.2) fin_S rfl (q_f2 (b_i (q_f2 (b_p rfl (b_p rfl op_ixL))) fun x107 => (b_p rfl op_mod))) (fun k1 x108 => [some ((eF D.int) a0), some ((eL D.int) x2), some (D.int x59.1), some ((eL D.int) x8), some (.lst ((x59.2.map (eL (eP2 D.int D.int))).set k1 junk)), some ((eL (eP2 D.int D.int)) x108), none, none]) (fun _ _ => rfl) fun k1 x108 => (t_assoc (t_seq fin_S (fun x119 : (List (Int × Int)) => [some ((eF D.int) a0), some ((eL D.int) x2), some (D.int x59.1), some ((eL D.int) x8), some (.lst ((x59.2.map (eL (eP2 D.int D.int))).set k1 junk)), some ((eL (eP2 D.int D.int)) x119), none, none]) (s_setIxIJ (e := (eP2 D.int D.int)) (xs := x108) (fun ys : (List (Int × Int)) => [some ((eF D.int) a0), some ((eL D.int) x2), some (D.int x59.1), some ((eL D.int) x8), some (.lst ((x59.2.map (eL (eP2 D.int D.int))).set k1 junk)), some ((eL (eP2 D.int D.int)) ys), none, none]) rfl (q_on (a_i (q_f2 (b_p rfl (b_i (q_f2 (b_i (q_f2 (b_p rfl (b_p rfl op_ixL))) fun x109 => (b_p rfl op_mod))) fun x110 => op_ixL))) fun x114 => (a_i (q_on (a_p rfl (a_i (q_f2 (b_p rfl (b_i (q_f2 (b_i (q_f2 (b_p rfl (b_p rfl op_ixL))) fun x111 => (b_p rfl (rf_ok (op_modp (by decide)))))) fun x112 => (rf_ok rfl)))) fun x113 => (a_0 (rf_ok rfl))))) fun x115 => (a_0 (rf_chk (n_law_added_piiq_piiq x114 x115) rfl))))) (q_f2 (b_i (q_f2 (b_p rfl (b_p rfl op_ixL))) fun x116 => (b_p rfl op_mod))) fun _ => rfl) fun x119 =>
  (t_giveS (t_give (e := (eL (eP2 D.int D.int))) (xs := x59.2) (u := x119) rfl rfl (fun x120 : (List (List (Int × Int))) => [some ((eF D.int) a0), some ((eL D.int) x2), some (D.int x59.1), some ((eL D.int) x8), some ((eL (eL (eP2 D.int D.int))) x120), none, none, none]) (fun _ => rfl) fun x120 => (t_nextS (t_next rfl))))))))
  (t_nextS (t_next rfl)))) fun x123 =>
  (t_end (t_retF (rf_ok (e := (eL (eL (eP2 D.int D.int)))) rfl)))))))))))
def N_checked_lot_ti_i (a0 : (List Int)) (a1 : Int) : Res (List Int) :=
  ((N_frozen_ti a0).bind fun x1 =>
  ((if (!decide ((x1.length : Int) = a1)) = true then Res.ok true else ((((lcR x1 (fun x2 => Res.ok true) (fun x2 => (Res.ok ((decide (0 ≤ x2)) && (decide (x2 ≤ 1000)))))).bind fun x3 => (Res.ok (x3.all id))).bind fun x4 => Res.ok (!x4)).bind fun x5 => (if x5 = true then Res.ok true else (Res.ok (decide (x1.sum = 0)))))).bind fun x6 => if x6 = true then (Res.ex "BadLot" []) else
  (Res.ok x1)))
theorem n_checked_lot_ti_i (a0 : (List Int)) (a1 : Int) : Rf (m_checked_lot [(eT D.int) a0, D.int a1]) (N_checked_lot_ti_i a0 a1) (eT D.int) :=
  n_runF ((t_seq fin_F (fun x1 : (List Int) => [some ((eT D.int) x1), some (D.int a1), none]) (s_set (e := (eT D.int)) _ (q_on (a_p rfl (a_0 (rf_chk (n_frozen_ti a0) rfl)))) fun _ => rfl) fun x1 =>
  (t_ifI fin_F (rOr (evB (ev2 (evOn (evA rfl rfl) op_lenT) rfl (op_ne (e := D.int) (x := (x1.length : Int)) (x' := a1)))) (rOrI (q_Not (b_i (q_Tr (b_iT (q_on (a_i (rf_lcp (it_T (e := D.int) (xs := x1) rfl) (fun x2 : Int => [some ((eT D.int) x1), some (D.int a1), some (D.int x2)]) (fun _ => rfl) (fun x2 => (rf_ok (v := true) rfl)) (fun x2 => (rf_ok (e := D.bl) (evChain rfl rfl rfl rfl rfl)))) fun x3 => (a_0 (rf_ok op_allL)))))) fun _ => rf_ok rfl)) (rf_ok (e := fun b => b) (evB (ev2 (evOn (evA rfl rfl) op_sumT) rfl (op_eq (e := D.int) (x := x1.sum) (x' := 0))))))) (t_raise fin_F (a_0 (rf_ex rfl)))
  (t_nextS (t_end (t_retF (rf_ok (e := (eT D.int)) rfl)))))))
def N_weighed_tpiiq_ti (a0 : (List (Int × Int))) (a1 : (List Int)) : Res (Int × Int) :=
  ((lcR (a0.zip a1) (fun x1 => Res.ok true) (fun x1 => ((mulR x1.1.1 x1.2).bind fun x2 => ((mulR x1.1.2 a1.sum).bind fun x3 => (N_ratio_i_i x2 x3))))).bind fun x4 => (N_fraction_sum_lpiiq x4))
theorem n_weighed_tpiiq_ti (a0 : (List (Int × Int))) (a1 : (List Int)) : Rf (m_weighed [(eT (eP2 D.int D.int)) a0, (eT D.int) a1]) (N_weighed_tpiiq_ti a0 a1) (eP2 D.int D.int) :=
  n_runF ((t_seqp [some ((eT (eP2 D.int D.int)) a0), some ((eT D.int) a1), some (D.int a1.sum), none, none] (set_p (evOn (evA rfl rfl) op_sumT) rfl) (t_end (t_retF (q_on (a_i (rf_lcp (it_zip3T (e := (eP2 D.int D.int)) (f := D.int) (xs := a0) (ys := a1) rfl rfl) (fun x1 : ((Int × Int) × Int) => [some ((eT (eP2 D.int D.int)) a0), some ((eT D.int) a1), some (D.int a1.sum), some ((eP2 D.int D.int) x1.1), some (D.int x1.2)]) (fun _ => rfl) (fun x1 => (rf_ok (v := true) rfl)) (fun x1 => (q_on (a_i (q_f2 (b_p rfl (b_p rfl op_mul))) fun x2 => (a_i (q_f2 (b_p rfl (b_p rfl op_mul))) fun x3 => (a_0 (rf_chk (n_ratio_i_i x2 x3) rfl))))))) fun x4 => (a_0 (rf_chk (n_fraction_sum_lpiiq x4) rfl))))))))
def N_frozen_tpiiq (a0 : (List (Int × Int))) : Res (List (Int × Int)) :=
  ((lcR a0 (fun x1 => Res.ok true) (fun x1 => (N_frozen_piiq x1))).bind fun x2 => (Res.ok x2))
theorem nr_frozen_tpiiq (n : Nat) (a0 : (List (Int × Int))) : Rf (r_frozen (n + 3) [(eT (eP2 D.int D.int)) a0]) (N_frozen_tpiiq a0) (eT (eP2 D.int D.int)) :=
  n_runF ((t_ifT (evTr (ev1 rfl (isi2_b isTy_list_tup isTy_tuple_tup)) rfl) (t_retF (q_on (a_i (rf_lcp (it_T (e := (eP2 D.int D.int)) (xs := a0) rfl) (fun x1 : (Int × Int) => [some ((eT (eP2 D.int D.int)) a0), some ((eP2 D.int D.int) x1)]) (fun _ => rfl) (fun x1 => (rf_ok (v := true) rfl)) (fun x1 => (q_on (a_p rfl (a_0 (rf_chk (nr_frozen_piiq (n + 0) x1) rfl)))))) fun x2 => (a_0 (rf_ok rfl)))))))
def N_frozen_ttpiiq (a0 : (List (List (Int × Int)))) : Res (List (List (Int × Int))) :=
  ((lcR a0 (fun x1 => Res.ok true) (fun x1 => (N_frozen_tpiiq x1))).bind fun x2 => (Res.ok x2))
theorem nr_frozen_ttpiiq (n : Nat) (a0 : (List (List (Int × Int)))) : Rf (r_frozen (n + 4) [(eT (eT (eP2 D.int D.int))) a0]) (N_frozen_ttpiiq a0) (eT (eT (eP2 D.int D.int))) :=
  n_runF ((t_ifT (evTr (ev1 rfl (isi2_b isTy_list_tup isTy_tuple_tup)) rfl) (t_retF (q_on (a_i (rf_lcp (it_T (e := (eT (eP2 D.int D.int))) (xs := a0) rfl) (fun x1 : (List (Int × Int)) => [some ((eT (eT (eP2 D.int D.int))) a0), some ((eT (eP2 D.int D.int)) x1)]) (fun _ => rfl) (fun x1 => (rf_ok (v := true) rfl)) (fun x1 => (q_on (a_p rfl (a_0 (rf_chk (nr_frozen_tpiiq (n + 0) x1) rfl)))))) fun x2 => (a_0 (rf_ok rfl)))))))
theorem n_frozen_ttpiiq (a0 : (List (List (Int × Int)))) : Rf (m_frozen [(eT (eT (eP2 D.int D.int))) a0]) (N_frozen_ttpiiq a0) (eT (eT (eP2 D.int D.int))) := nr_frozen_ttpiiq 2 a0
def N_Table_init_ttpiiq (a0 : (List (List (Int × Int)))) : Res ((List (List (Int × Int))) × Int) :=
  (((N_frozen_ttpiiq a0).bind fun x1 => (N_checked_rows_ttpiiq x1)).bind fun x2 =>
  ((Res.ok (x2.length : Int)).bind fun x3 =>
  Res.ok (x2, x3)))
theorem n_Table_init_ttpiiq (a0 : (List (List (Int × Int)))) : Rf (m_Table_init [(eT (eT (eP2 D.int D.int))) a0]) (N_Table_init_ttpiiq a0) (eOb2 "Table" "rows" "size" (eT (eT (eP2 D.int D.int))) D.int) :=
  n_runI ((t_seq fin_I (fun x2 : (List (List (Int × Int))) => [some ((eOb1 "Table" "rows" (eT (eT (eP2 D.int D.int)))) x2), some ((eT (eT (eP2 D.int D.int))) a0)]) (s_fld (e := (eT (eT (eP2 D.int D.int)))) (ns := []) (ds := []) (fun v : (List (List (Int × Int))) => [some ((eOb1 "Table" "rows" (eT (eT (eP2 D.int D.int)))) v), some ((eT (eT (eP2 D.int D.int))) a0)]) rfl (by decide) (q_on (a_i (q_on (a_p rfl (a_0 (rf_chk (n_frozen_ttpiiq a0) rfl)))) fun x1 => (a_0 (rf_chk (n_checked_rows_ttpiiq x1) rfl)))) fun _ => rfl) fun x2 =>
  (t_end (t_seq fin_I (fun x3 : Int => [some ((eOb2 "Table" "rows" "size" (eT (eT (eP2 D.int D.int))) D.int) (x2, x3)), some ((eT (eT (eP2 D.int D.int))) a0)]) (s_fld (e := D.int) (ns := ["rows"]) (ds := [(eT (eT (eP2 D.int D.int))) x2]) (fun v : Int => [some ((eOb2 "Table" "rows" "size" (eT (eT (eP2 D.int D.int))) D.int) (x2, v)), some ((eT (eT (eP2 D.int D.int))) a0)]) rfl (by decide) (rf_ok (e := D.int) (evOn (evA (ev1 rfl fld_hit) rfl) op_lenT)) fun _ => rfl) fun x3 =>
  (t_next (o := (eOb2 "Table" "rows" "size" (eT (eT (eP2 D.int D.int))) D.int)) (v := (x2, x3)) rfl)))))
def N_Table_turned_cTablettpiiqiq (a0 : ((List (List (Int × Int))) × Int)) : Res ((List (List (Int × Int))) × Int) :=
  ((N_turned_rows_ttpiiq a0.1).bind fun x1 => (N_Table_init_ttpiiq x1))
theorem n_Table_turned_cTablettpiiqiq (a0 : ((List (List (Int × Int))) × Int)) : Rf (m_Table_turned [(eOb2 "Table" "rows" "size" (eT (eT (eP2 D.int D.int))) D.int) a0]) (N_Table_turned_cTablettpiiqiq a0) (eOb2 "Table" "rows" "size" (eT (eT (eP2 D.int D.int))) D.int) :=
  n_runF ((t_end (t_retF (q_on (a_i (q_on (a_p (ev1 rfl fld_hit) (a_0 (rf_chk (n_turned_rows_ttpiiq a0.1) rfl)))) fun x1 => (a_0 (rf_chk (n_Table_init_ttpiiq x1) rfl)))))))
def N_halfway_table_cTablettpiiqiq_li (a0 : ((List (List (Int × Int))) × Int)) (a1 : (List Int)) : Res ((List (List (Int × Int))) × Int) :=
  (((N_frozen_li a1).bind fun x1 => (N_checked_lot_ti_i x1 a0.2)).bind fun x2 =>
  ((lcR a0.1 (fun x3 => Res.ok true) (fun x3 => (N_weighed_tpiiq_ti x3 x2))).bind fun x4 =>
  ((((N_Table_turned_cTablettpiiqiq a0).bind fun x6 => (Res.ok x6.1)).bind fun x8 => lcR x8 (fun x7 => Res.ok true) (fun x7 => (N_weighed_tpiiq_ti x7 x2))).bind fun x9 =>
  ((lcR x4 (fun x10 => Res.ok true) (fun x10 => (lcR x9 (fun x11 => Res.ok true) (fun x11 => (N_added_piiq_piiq x10 x11))))).bind fun x12 => (N_Table_init_llpiiq x12)))))
theorem n_halfway_table_cTablettpiiqiq_li (a0 : ((List (List (Int × Int))) × Int)) (a1 : (List Int)) : Rf (m_halfway_table [(eOb2 "Table" "rows" "size" (eT (eT (eP2 D.int D.int))) D.int) a0, (eL D.int) a1]) (N_halfway_table_cTablettpiiqiq_li a0 a1) (eOb2 "Table" "rows" "size" (eT (eT (eP2 D.int D.int))) D.int) :=
  n_runF ((t_seq fin_F (fun x2 : (List Int) => [some ((eOb2 "Table" "rows" "size" (eT (eT (eP2 D.int D.int))) D.int) a0), some ((eT D.int) x2), none, none, none, none, none, none]) (s_set (e := (eT D.int)) _ (q_on (a_i (q_on (a_p rfl (a_0 (rf_chk (n_frozen_li a1) rfl)))) fun x1 => (a_p (ev1 rfl (fld_skip (by decide) fld_hit)) (a_0 (rf_chk (n_checked_lot_ti_i x1 a0.2) rfl))))) fun _ => rfl) fun x2 =>
  (t_seq fin_F (fun x4 : (List (Int × Int)) => [some ((eOb2 "Table" "rows" "size" (eT (eT (eP2 D.int D.int))) D.int) a0), some ((eT D.int) x2), some ((eL (eP2 D.int D.int)) x4), none, none, none, none, none]) (s_set (e := (eL (eP2 D.int D.int))) _ (rf_lcp (it_T (e := (eT (eP2 D.int D.int))) (xs := a0.1) (ev1 rfl fld_hit)) (fun x3 : (List (Int × Int)) => [some ((eOb2 "Table" "rows" "size" (eT (eT (eP2 D.int D.int))) D.int) a0), some ((eT D.int) x2), none, none, some ((eT (eP2 D.int D.int)) x3), none, none, none]) (fun _ => rfl) (fun x3 => (rf_ok (v := true) rfl)) (fun x3 => (q_on (a_p rfl (a_p rfl (a_0 (rf_chk (n_weighed_tpiiq_ti x3 x2) rfl))))))) fun _ => rfl) fun x4 =>
  (t_seq fin_F (fun x9 : (List (Int × Int)) => [some ((eOb2 "Table" "rows" "size" (eT (eT (eP2 D.int D.int))) D.int) a0), some ((eT D.int) x2), some ((eL (eP2 D.int D.int)) x4), some ((eL (eP2 D.int D.int)) x9), none, none, none, none]) (s_set (e := (eL (eP2 D.int D.int))) _ (rf_lc (q_L (b_iL (q := (eT (eT (eP2 D.int D.int)))) (e := (eT (eP2 D.int D.int))) (q_f1 (b_i (q_meth rfl (by first | rfl | decide) (a_0 (rf_chk (n_Table_turned_cTablettpiiqiq a0) rfl))) fun x6 => (rf_ok fld_hit))) fun _ => rfl)) (fun x7 : (List (Int × Int)) => [some ((eOb2 "Table" "rows" "size" (eT (eT (eP2 D.int D.int))) D.int) a0), some ((eT D.int) x2), some ((eL (eP2 D.int D.int)) x4), none, none, some ((eT (eP2 D.int D.int)) x7), none, none]) (fun _ => rfl) (fun x7 => (rf_ok (v := true) rfl)) (fun x7 => (q_on (a_p rfl (a_p rfl (a_0 (rf_chk (n_weighed_tpiiq_ti x7 x2) rfl))))))) fun _ => rfl) fun x9 =>
  (t_end (t_retF (q_on (a_i (rf_lcp (it_L (e := (eP2 D.int D.int)) (xs := x4) rfl) (fun x10 : (Int × Int) => [some ((eOb2 "Table" "rows" "size" (eT (eT (eP2 D.int D.int))) D.int) a0), some ((eT D.int) x2), some ((eL (eP2 D.int D.int)) x4), some ((eL (eP2 D.int D.int)) x9), none, none, some ((eP2 D.int D.int) x10), none]) (fun _ => rfl) (fun x10 => (rf_ok (v := true) rfl)) (fun x10 => (rf_lcp (it_L (e := (eP2 D.int D.int)) (xs := x9) rfl) (fun x11 : (Int × Int) => [some ((eOb2 "Table" "rows" "size" (eT (eT (eP2 D.int D.int))) D.int) a0), some ((eT D.int) x2), some ((eL (eP2 D.int D.int)) x4), some ((eL (eP2 D.int D.int)) x9), none, none, some ((eP2 D.int D.int) x10), some ((eP2 D.int D.int) x11)]) (fun _ => rfl) (fun x11 => (rf_ok (v := true) rfl)) (fun x11 => (q_on (a_p rfl (a_p rfl (a_0 (rf_chk (n_added_piiq_piiq x10 x11) rfl))))))))) fun x12 => (a_0 (rf_chk (n_Table_init_llpiiq x12) rfl))))))))))
def N_plain_table_i_piiq (a0 : Int) (a1 : (Int × Int)) : Res ((List (List (Int × Int))) × Int) :=
  (((rngR a0).bind fun x4 => lcR x4 (fun x1 => Res.ok true) (fun x1 => ((rngR a0).bind fun x3 => lcR x3 (fun x2 => Res.ok true) (fun x2 => (N_frozen_piiq a1))))).bind fun x5 => (N_Table_init_llpiiq x5))
theorem n_plain_table_i_piiq (a0 : Int) (a1 : (Int × Int)) : Rf (m_plain_table [D.int a0, (eP2 D.int D.int) a1]) (N_plain_table_i_piiq a0 a1) (eOb2 "Table" "rows" "size" (eT (eT (eP2 D.int D.int))) D.int) :=
  n_runF ((t_end (t_retF (q_on (a_i (rf_lc (q_R1 (a_p rfl (a_0 k_R1))) (fun x1 : Int => [some (D.int a0), some ((eP2 D.int D.int) a1), some (D.int x1), none]) (fun _ => rfl) (fun x1 => (rf_ok (v := true) rfl)) (fun x1 => (rf_lc (q_R1 (a_p rfl (a_0 k_R1))) (fun x2 : Int => [some (D.int a0), some ((eP2 D.int D.int) a1), some (D.int x1), some (D.int x2)]) (fun _ => rfl) (fun x2 => (rf_ok (v := true) rfl)) (fun x2 => (q_on (a_p rfl (a_0 (rf_chk (n_frozen_piiq a1) rfl)))))))) fun x5 => (a_0 (rf_chk (n_Table_init_llpiiq x5) rfl)))))))
def N_joined_rows_ttpiiq_ttpiiq_i (a0 : (List (List (Int × Int)))) (a1 : (List (List (Int × Int)))) (a2 : Int) : Res (List (List (Int × Int))) :=
  (((rngR (a0.length : Int)).bind fun x45 => (forR (σ := (List (List (Int × Int)))) (fun x1 x2 => (((rngR (a0.length : Int)).bind fun x42 => (forR (σ := (List (Int × Int))) (fun x3 x4 => ((if (decide (a2 < 0)) = true then (((((ixR a0 x2).bind fun x29 => (ixR x29 x4)).bind fun x31 => (((ixR a1 x2).bind fun x30 => (ixR x30 x4)).bind fun x32 => (N_less_piiq_piiq x31 x32))).bind fun x33 => appR x3 x33).bind fun x34 =>
  Res.ok x34) else
  (((((ixR a0 x2).bind fun x35 => (ixR x35 x4)).bind fun x37 => (((ixR a1 x2).bind fun x36 => (ixR x36 x4)).bind fun x38 => (N_added_piiq_piiq x37 x38))).bind fun x39 => appR x3 x39).bind fun x40 =>
  Res.ok x40)).bind fun x41 =>
  Res.ok x41)) x42 [])).bind fun x43 =>
  ((appR x1 x43).bind fun x44 =>
  Res.ok x44))) x45 [])).bind fun x46 =>
  (Res.ok x46))
theorem n_joined_rows_ttpiiq_ttpiiq_i (a0 : (List (List (Int × Int)))) (a1 : (List (List (Int × Int)))) (a2 : Int) : Rf (m_joined_rows [(eT (eT (eP2 D.int D.int))) a0, (eT (eT (eP2 D.int D.int))) a1, D.int a2]) (N_joined_rows_ttpiiq_ttpiiq_i a0 a1 a2) (eT (eT (eP2 D.int D.int))) :=
  n_runF ((t_seqp [some ((eT (eT (eP2 D.int D.int))) a0), some ((eT (eT (eP2 D.int D.int))) a1), some (D.int a2), some ((eL (eT (eP2 D.int D.int))) []), none, none, none] (set_p rfl rfl) (t_seq fin_F (fun x46 : (List (List (Int × Int))) => [some ((eT (eT (eP2 D.int D.int))) a0), some ((eT (eT (eP2 D.int D.int))) a1), some (D.int a2), some ((eL (eT (eP2 D.int D.int))) x46), none, none, none]) (s_for (ex := D.int) (s0 := []) (q_R1 (a_p (evOn (evA rfl rfl) op_lenT) (a_0 k_R1))) (fun x1 : (List (List (Int × Int))) => [some ((eT (eT (eP2 D.int D.int))) a0), some ((eT (eT (eP2 D.int D.int))) a1), some (D.int a2), some ((eL (eT (eP2 D.int D.int))) x1), none, none, none]) (fun (x1 : (List (List (Int × Int)))) (x2 : Int) => [some ((eT (eT (eP2 D.int D.int))) a0), some ((eT (eT (eP2 D.int D.int))) a1), some (D.int a2), some ((eL (eT (eP2 D.int D.int))) x1), some (D.int x2), none, none]) rfl (fun _ _ => rfl) fun x1 x2 =>
  (t_assoc (t_seqp [some ((eT (eT (eP2 D.int D.int))) a0), some ((eT (eT (eP2 D.int D.int))) a1), some (D.int a2), some ((eL (eT (eP2 D.int D.int))) x1), some (D.int x2), some ((eL (eP2 D.int D.int)) []), none] (set_p rfl rfl) (t_assoc (t_seq fin_L (fun x43 : (List (Int × Int)) => [some ((eT (eT (eP2 D.int D.int))) a0), some ((eT (eT (eP2 D.int D.int))) a1), some (D.int a2), some ((eL (eT (eP2 D.int D.int))) x1), some (D.int x2), some ((eL (eP2 D.int D.int)) x43), none]) (s_for (ex := D.int) (s0 := []) (q_R1 (a_p (evOn (evA rfl rfl) op_lenT) (a_0 k_R1))) (fun x3 : (List (Int × Int)) => [some ((eT (eT (eP2 D.int D.int))) a0), some ((eT (eT (eP2 D.int D.int))) a1), some (D.int a2), some ((eL (eT (eP2 D.int D.int))) x1), some (D.int x2), some ((eL (eP2 D.int D.int)) x3), none]) (fun (x3 : (List (Int × Int))) (x4 : Int) => [some ((eT (eT (eP2 D.int D.int))) a0), some ((eT (eT (eP2 D.int D.int))) a1), some (D.int a2), some ((eL (eT (eP2 D.int D.int))) x1), some (D.int x2), some ((eL (eP2 D.int D.int)) x3), some (D.int x4)]) rfl (fun _ _ => rfl) fun x3 x4 =>
  (t_seq fin_L (fun x41 : (List (Int × Int)) => [some ((eT (eT (eP2 D.int D.int))) a0), some ((eT (eT (eP2 D.int D.int))) a1), some (D.int a2), some ((eL (eT (eP2 D.int D.int))) x1), some (D.int x2), some ((eL (eP2 D.int D.int)) x41), some (D.int x4)]) (s_if (o' := (fun s : (List (Int × Int)) => Fl.nx [some ((eT (eT (eP2 D.int D.int))) a0), some ((eT (eT (eP2 D.int D.int))) a1), some (D.int a2), some ((eL (eT (eP2 D.int D.int))) x1), some (D.int x2), some ((eL (eP2 D.int D.int)) s), some (D.int x4)])) (t_if rfl (t_seq fin_S (fun x34 : (List (Int × Int)) => [some ((eT (eT (eP2 D.int D.int))) a0), some ((eT (eT (eP2 D.int D.int))) a1), some (D.int a2), some ((eL (eT (eP2 D.int D.int))) x1), some (D.int x2), some ((eL (eP2 D.int D.int)) x34), some (D.int x4)]) (s_appI (e := (eP2 D.int D.int)) (xs := x3) (fun ys : (List (Int × Int)) => [some ((eT (eT (eP2 D.int D.int))) a0), some ((eT (eT (eP2 D.int D.int))) a1), some (D.int a2), some ((eL (eT (eP2 D.int D.int))) x1), some (D.int x2), some ((eL (eP2 D.int D.int)) ys), some (D.int x4)]) rfl (q_on (a_i (q_f2 (b_i (q_f2 (b_p rfl (b_p rfl op_ixT))) fun x29 => (b_p rfl op_ixT))) fun x31 => (a_i (q_f2 (b_i (q_f2 (b_p rfl (b_p rfl op_ixT))) fun x30 => (b_p rfl op_ixT))) fun x32 => (a_0 (rf_chk (n_less_piiq_piiq x31 x32) rfl))))) fun _ => rfl) fun x34 =>
  (t_next rfl))
  (t_seq fin_S (fun x40 : (List (Int × Int)) => [some ((eT (eT (eP2 D.int D.int))) a0), some ((eT (eT (eP2 D.int D.int))) a1), some (D.int a2), some ((eL (eT (eP2 D.int D.int))) x1), some (D.int x2), some ((eL (eP2 D.int D.int)) x40), some (D.int x4)]) (s_appI (e := (eP2 D.int D.int)) (xs := x3) (fun ys : (List (Int × Int)) => [some ((eT (eT (eP2 D.int D.int))) a0), some ((eT (eT (eP2 D.int D.int))) a1), some (D.int a2), some ((eL (eT (eP2 D.int D.int))) x1), some (D.int x2), some ((eL (eP2 D.int D.int)) ys), some (D.int x4)]) rfl (q_on (a_i (q_f2 (b_i (q_f2 (b_p rfl (b_p rfl op_ixT))) fun x35 => (b_p rfl op_ixT))) fun x37 => (a_i (q_f2 (b_i (q_f2 (b_p rfl (b_p rfl op_ixT))) fun x36 => (b_p rfl op_ixT))) fun x38 => (a_0 (rf_chk (n_added_piiq_piiq x37 x38) rfl))))) fun _ => rfl) fun x40 =>
  (t_next rfl)))) fun x41 =>
  (t_next rfl))) fun x43 =>
  (t_seq fin_L (fun x44 : (List (List (Int × Int))) => [some ((eT (eT (eP2 D.int D.int))) a0), some ((eT (eT (eP2 D.int D.int))) a1), some (D.int a2), some ((eL (eT (eP2 D.int D.int))) x44), some (D.int x2), some ((eL (eP2 D.int D.int)) x43), none]) (s_app (e := (eT (eP2 D.int D.int))) (xs := x1) (d := x43) (fun ys : (List (List (Int × Int))) => [some ((eT (eT (eP2 D.int D.int))) a0), some ((eT (eT (eP2 D.int D.int))) a1), some (D.int a2), some ((eL (eT (eP2 D.int D.int))) ys), some (D.int x2), some ((eL (eP2 D.int D.int)) x43), none]) rfl rfl fun _ => rfl) fun x44 =>
  (t_next rfl))))))) fun x46 =>
  (t_end (t_retF (rf_ok (e := (eT (eT (eP2 D.int D.int)))) rfl))))))
def N_Table_add_cTablettpiiqiq_cTablettpiiqiq (a0 : ((List (List (Int × Int))) × Int)) (a1 : ((List (List (Int × Int))) × Int)) : Res ((List (List (Int × Int))) × Int) :=
  (if (!decide ((a0.1.length : Int) = (a1.1.length : Int))) = true then (Res.ex "SizesDiffer" [("two", D.int (a1.1.length : Int)), ("one", D.int (a0.1.length : Int))]) else
  ((N_joined_rows_ttpiiq_ttpiiq_i a0.1 a1.1 1).bind fun x1 => (N_Table_init_ttpiiq x1)))
theorem n_Table_add_cTablettpiiqiq_cTablettpiiqiq (a0 : ((List (List (Int × Int))) × Int)) (a1 : ((List (List (Int × Int))) × Int)) : Rf (m_Table_add [(eOb2 "Table" "rows" "size" (eT (eT (eP2 D.int D.int))) D.int) a0, (eOb2 "Table" "rows" "size" (eT (eT (eP2 D.int D.int))) D.int) a1]) (N_Table_add_cTablettpiiqiq_cTablettpiiqiq a0 a1) (eOb2 "Table" "rows" "size" (eT (eT (eP2 D.int D.int))) D.int) :=
  n_runF ((t_if (evB (ev2 (evOn (evA (ev1 rfl fld_hit) rfl) op_lenT) (evOn (evA (ev1 rfl fld_hit) rfl) op_lenT) (op_ne (e := D.int) (x := (a0.1.length : Int)) (x' := (a1.1.length : Int))))) (t_raise fin_F (a_p (evOn (evA (ev1 rfl fld_hit) rfl) op_lenT) (a_p (evOn (evA (ev1 rfl fld_hit) rfl) op_lenT) (a_0 (rf_ex rfl)))))
  (t_nextS (t_end (t_retF (q_on (a_i (q_on (a_p (ev1 rfl fld_hit) (a_p (ev1 rfl fld_hit) (a_p rfl (a_0 (rf_chk (n_joined_rows_ttpiiq_ttpiiq_i a0.1 a1.1 1) rfl)))))) fun x1 => (a_0 (rf_chk (n_Table_init_ttpiiq x1) rfl)))))))))
def N_Table_eq_cTablettpiiqiq_cTablettpiiqiq (a0 : ((List (List (Int × Int))) × Int)) (a1 : ((List (List (Int × Int))) × Int)) : Res Bool :=
  (Res.ok (decide (a0.1 = a1.1)))
theorem n_Table_eq_cTablettpiiqiq_cTablettpiiqiq (a0 : ((List (List (Int × Int))) × Int)) (a1 : ((List (List (Int × Int))) × Int)) : Rf (m_Table_eq [(eOb2 "Table" "rows" "size" (eT (eT (eP2 D.int D.int))) D.int) a0, (eOb2 "Table" "rows" "size" (eT (eT (eP2 D.int D.int))) D.int) a1]) (N_Table_eq_cTablettpiiqiq_cTablettpiiqiq a0 a1) D.bl :=
  n_runF ((t_end (t_retF (rf_ok (e := D.bl) (evBv (evAndT rfl (evB (ev2 (ev1 rfl fld_hit) (ev1 rfl fld_hit) (op_eq (e := (eT (eT (eP2 D.int D.int)))) (x := a0.1) (x' := a1.1))))))))))
def N_even_lot_i (a0 : Int) : Res (List Int) :=
  (if (!((decide (1 ≤ a0)) && (decide (a0 ≤ 24)))) = true then (Res.ex "BadSize" [("size", D.int a0)]) else
  (((rngR a0).bind fun x2 => lcR x2 (fun x1 => Res.ok true) (fun x1 => (Res.ok 1))).bind fun x3 => (Res.ok x3)))
theorem n_even_lot_i (a0 : Int) : Rf (m_even_lot [D.int a0]) (N_even_lot_i a0) (eT D.int) :=
  n_runF ((t_if (evNot (evB (evChain rfl rfl rfl rfl rfl))) (t_raise fin_F (a_p rfl (a_0 (rf_ex rfl))))
  (t_nextS (t_end (t_retF (q_on (a_i (rf_lc (q_R1 (a_p rfl (a_0 k_R1))) (fun x1 : Int => [some (D.int a0), some (D.int x1)]) (fun _ => rfl) (fun x1 => (rf_ok (v := true) rfl)) (fun x1 => (rf_ok (e := D.int) rfl))) fun x3 => (a_0 (rf_ok rfl)))))))))
def N_weighed_lpiiq_ti (a0 : (List (Int × Int))) (a1 : (List Int)) : Res (Int × Int) :=
  ((lcR (a0.zip a1) (fun x1 => Res.ok true) (fun x1 => ((mulR x1.1.1 x1.2).bind fun x2 => ((mulR x1.1.2 a1.sum).bind fun x3 => (N_ratio_i_i x2 x3))))).bind fun x4 => (N_fraction_sum_lpiiq x4))
theorem n_weighed_lpiiq_ti (a0 : (List (Int × Int))) (a1 : (List Int)) : Rf (m_weighed [(eL (eP2 D.int D.int)) a0, (eT D.int) a1]) (N_weighed_lpiiq_ti a0 a1) (eP2 D.int D.int) :=
  n_runF ((t_seqp [some ((eL (eP2 D.int D.int)) a0), some ((eT D.int) a1), some (D.int a1.sum), none, none] (set_p (evOn (evA rfl rfl) op_sumT) rfl) (t_end (t_retF (q_on (a_i (rf_lcp (it_zip3 (e := (eP2 D.int D.int)) (f := D.int) (xs := a0) (ys := a1) rfl rfl) (fun x1 : ((Int × Int) × Int) => [some ((eL (eP2 D.int D.int)) a0), some ((eT D.int) a1), some (D.int a1.sum), some ((eP2 D.int D.int) x1.1), some (D.int x1.2)]) (fun _ => rfl) (fun x1 => (rf_ok (v := true) rfl)) (fun x1 => (q_on (a_i (q_f2 (b_p rfl (b_p rfl op_mul))) fun x2 => (a_i (q_f2 (b_p rfl (b_p rfl op_mul))) fun x3 => (a_0 (rf_chk (n_ratio_i_i x2 x3) rfl))))))) fun x4 => (a_0 (rf_chk (n_fraction_sum_lpiiq x4) rfl))))))))
def N_constant_load_cTablettpiiqiq_ti (a0 : ((List (List (Int × Int))) × Int)) (a1 : (List Int)) : Res (Int × Int) :=
  (((N_frozen_ti a1).bind fun x1 => (N_checked_lot_ti_i x1 a0.2)).bind fun x2 =>
  ((((nx (N_Table_row_sums_cTablettpiiqiq a0)).bind fun x3 => ((nx (N_Table_column_sums_cTablettpiiqiq a0)).bind fun x4 => (Res.ok (x3.zip x4)))).bind fun x6 => lcR x6 (fun x5 => Res.ok true) (fun x5 => (N_added_piiq_piiq x5.1 x5.2))).bind fun x7 =>
  (N_weighed_lpiiq_ti x7 x2)))
theorem n_constant_load_cTablettpiiqiq_ti (a0 : ((List (List (Int × Int))) × Int)) (a1 : (List Int)) : Rf (m_constant_load [(eOb2 "Table" "rows" "size" (eT (eT (eP2 D.int D.int))) D.int) a0, (eT D.int) a1]) (N_constant_load_cTablettpiiqiq_ti a0 a1) (eP2 D.int D.int) :=
  n_runF ((t_seq fin_F (fun x2 : (List Int) => [some ((eOb2 "Table" "rows" "size" (eT (eT (eP2 D.int D.int))) D.int) a0), some ((eT D.int) x2), none, none, none]) (s_set (e := (eT D.int)) _ (q_on (a_i (q_on (a_p rfl (a_0 (rf_chk (n_frozen_ti a1) rfl)))) fun x1 => (a_p (ev1 rfl (fld_skip (by decide) fld_hit)) (a_0 (rf_chk (n_checked_lot_ti_i x1 a0.2) rfl))))) fun _ => rfl) fun x2 =>
  (t_seq fin_F (fun x7 : (List (Int × Int)) => [some ((eOb2 "Table" "rows" "size" (eT (eT (eP2 D.int D.int))) D.int) a0), some ((eT D.int) x2), some ((eL (eP2 D.int D.int)) x7), none, none]) (s_set (e := (eL (eP2 D.int D.int))) _ (rf_lc (q_Zip (a_i (q_f1 (b_p rfl (q_prop (n_Table_row_sums_cTablettpiiqiq a0)))) fun x3 => (a_i (q_f1 (b_p rfl (q_prop (n_Table_column_sums_cTablettpiiqiq a0)))) fun x4 => (a_0 (rf_ok k_zipT))))) (fun x5 : ((Int × Int) × (Int × Int)) => [some ((eOb2 "Table" "rows" "size" (eT (eT (eP2 D.int D.int))) D.int) a0), some ((eT D.int) x2), none, some ((eP2 D.int D.int) x5.1), some ((eP2 D.int D.int) x5.2)]) (fun _ => rfl) (fun x5 => (rf_ok (v := true) rfl)) (fun x5 => (q_on (a_p rfl (a_p rfl (a_0 (rf_chk (n_added_piiq_piiq x5.1 x5.2) rfl))))))) fun _ => rfl) fun x7 =>
  (t_end (t_retF (q_on (a_p rfl (a_p rfl (a_0 (rf_chk (n_weighed_lpiiq_ti x7 x2) rfl))))))))))
def N_law_weighed_lpiiq_li (a0 : (List (Int × Int))) (a1 : (List Int)) : Res (Int × Int) :=
  (((rngR (a1.length : Int)).bind fun x8 => (forR (σ := (Int × Int)) (fun x1 x2 => ((((ixR a0 x2).bind fun x4 => (((ixR a1 x2).bind fun x3 => (Res.ok (x3, 1))).bind fun x5 => (N_law_timed_piiq_piiq x4 x5))).bind fun x6 => (N_law_added_piiq_piiq x1 x6)).bind fun x7 =>
  Res.ok x7)) x8 (0, 1))).bind fun x9 =>
  ((mulR x9.2 a1.sum).bind fun x10 => (N_law_fraction_i_i x9.1 x10)))
theorem n_law_weighed_lpiiq_li (a0 : (List (Int × Int))) (a1 : (List Int)) : Rf (m_law_weighed [(eL (eP2 D.int D.int)) a0, (eL D.int) a1]) (N_law_weighed_lpiiq_li a0 a1) (eP2 D.int D.int) :=
  n_runF ((t_seqp [some ((eL (eP2 D.int D.int)) a0), some ((eL D.int) a1), some ((eP2 D.int D.int) (0, 1)), none] (set_p rfl rfl) (t_seq fin_F (fun x9 : (Int × Int) => [some ((eL (eP2 D.int D.int)) a0), some ((eL D.int) a1), some ((eP2 D.int D.int) x9), none]) (s_for (ex := D.int) (s0 := (0, 1)) (q_R1 (a_p (evOn (evA rfl rfl) op_lenL) (a_0 k_R1))) (fun x1 : (Int × Int) => [some ((eL (eP2 D.int D.int)) a0), some ((eL D.int) a1), some ((eP2 D.int D.int) x1), none]) (fun (x1 : (Int × Int)) (x2 : Int) => [some ((eL (eP2 D.int D.int)) a0), some ((eL D.int) a1), some ((eP2 D.int D.int) x1), some (D.int x2)]) rfl (fun _ _ => rfl) fun x1 x2 =>
  (t_seq fin_L (fun x7 : (Int × Int) => [some ((eL (eP2 D.int D.int)) a0), some ((eL D.int) a1), some ((eP2 D.int D.int) x7), some (D.int x2)]) (s_set (e := (eP2 D.int D.int)) _ (q_on (a_p rfl (a_i (q_on (a_i (q_f2 (b_p rfl (b_p rfl op_ixL))) fun x4 => (a_i (q_on (a_i (q_f2 (b_p rfl (b_p rfl op_ixL))) fun x3 => (a_p rfl (a_0 (rf_ok rfl))))) fun x5 => (a_0 (rf_chk (n_law_timed_piiq_piiq x4 x5) rfl))))) fun x6 => (a_0 (rf_chk (n_law_added_piiq_piiq x1 x6) rfl))))) fun _ => rfl) fun x7 =>
  (t_next rfl))) fun x9 =>
  (t_end (t_retF (q_on (a_p rfl (a_i (q_f2 (b_p rfl (b_p (evOn (evA rfl rfl) op_sumL) op_mul))) fun x10 => (a_0 (rf_chk (n_law_fraction_i_i x9.1 x10) rfl))))))))))
def N_constant_load_cTablettpiiqiq_li (a0 : ((List (List (Int × Int))) × Int)) (a1 : (List Int)) : Res (Int × Int) :=
  (((N_frozen_li a1).bind fun x1 => (N_checked_lot_ti_i x1 a0.2)).bind fun x2 =>
  ((((nx (N_Table_row_sums_cTablettpiiqiq a0)).bind fun x3 => ((nx (N_Table_column_sums_cTablettpiiqiq a0)).bind fun x4 => (Res.ok (x3.zip x4)))).bind fun x6 => lcR x6 (fun x5 => Res.ok true) (fun x5 => (N_added_piiq_piiq x5.1 x5.2))).bind fun x7 =>
  (N_weighed_lpiiq_ti x7 x2)))
theorem n_constant_load_cTablettpiiqiq_li (a0 : ((List (List (Int × Int))) × Int)) (a1 : (List Int)) : Rf (m_constant_load [(eOb2 "Table" "rows" "size" (eT (eT (eP2 D.int D.int))) D.int) a0, (eL D.int) a1]) (N_constant_load_cTablettpiiqiq_li a0 a1) (eP2 D.int D.int) :=
  n_runF ((t_seq fin_F (fun x2 : (List Int) => [some ((eOb2 "Table" "rows" "size" (eT (eT (eP2 D.int D.int))) D.int) a0), some ((eT D.int) x2), none, none, none]) (s_set (e := (eT D.int)) _ (q_on (a_i (q_on (a_p rfl (a_0 (rf_chk (n_frozen_li a1) rfl)))) fun x1 => (a_p (ev1 rfl (fld_skip (by decide) fld_hit)) (a_0 (rf_chk (n_checked_lot_ti_i x1 a0.2) rfl))))) fun _ => rfl) fun x2 =>
  (t_seq fin_F (fun x7 : (List (Int × Int)) => [some ((eOb2 "Table" "rows" "size" (eT (eT (eP2 D.int D.int))) D.int) a0), some ((eT D.int) x2), some ((eL (eP2 D.int D.int)) x7), none, none]) (s_set (e := (eL (eP2 D.int D.int))) _ (rf_lc (q_Zip (a_i (q_f1 (b_p rfl (q_prop (n_Table_row_sums_cTablettpiiqiq a0)))) fun x3 => (a_i (q_f1 (b_p rfl (q_prop (n_Table_column_sums_cTablettpiiqiq a0)))) fun x4 => (a_0 (rf_ok k_zipT))))) (fun x5 : ((Int × Int) × (Int × Int)) => [some ((eOb2 "Table" "rows" "size" (eT (eT (eP2 D.int D.int))) D.int) a0), some ((eT D.int) x2), none, some ((eP2 D.int D.int) x5.1), some ((eP2 D.int D.int) x5.2)]) (fun _ => rfl) (fun x5 => (rf_ok (v := true) rfl)) (fun x5 => (q_on (a_p rfl (a_p rfl (a_0 (rf_chk (n_added_piiq_piiq x5.1 x5.2) rfl))))))) fun _ => rfl) fun x7 =>
  (t_end (t_retF (q_on (a_p rfl (a_p rfl (a_0 (rf_chk (n_weighed_lpiiq_ti x7 x2) rfl))))))))))
def N_law_fi (a0 : (List Int)) : Res Bool :=
  ((N_law_drawn_rows2_fi a0).bind fun x1 =>
  ((N_Table_init_llpiiq x1).bind fun x2 =>
  (((rngR (x1.length : Int)).bind fun x4 => lcR x4 (fun x3 => Res.ok true) (fun x3 => (Res.ok 1))).bind fun x5 =>
  ((N_halfway_table_cTablettpiiqiq_li x2 x5).bind fun x6 =>
  (((rngR (x1.length : Int)).bind fun x9 => lcR x9 (fun x7 => Res.ok true) (fun x7 => (lcR x1 (fun x8 => Res.ok true) (fun x8 => (ixR x8 x7))))).bind fun x10 =>
  ((lcR x1 (fun x11 => Res.ok true) (fun x11 => (N_law_sum_lpiiq x11))).bind fun x12 =>
  ((lcR x10 (fun x13 => Res.ok true) (fun x13 => (N_law_sum_lpiiq x13))).bind fun x14 =>
  (((rngR (x1.length : Int)).bind fun x24 => (forR (σ := (List (List (Int × Int)))) (fun x15 x16 => ((((rngR (x1.length : Int)).bind fun x21 => lcR x21 (fun x17 => Res.ok true) (fun x17 => (((ixR x12 x16).bind fun x18 => ((ixR x14 x17).bind fun x19 => (N_law_added_piiq_piiq x18 x19))).bind fun x20 => (N_law_timed_piiq_piiq x20 (1, (x1.length : Int)))))).bind fun x22 => appR x15 x22).bind fun x23 =>
  Res.ok x23)) x24 [])).bind fun x25 =>
  (((nx (N_law_same_ttpiiq_llpiiq x6.1 x25)).bind fun x26 => Res.ok (!x26)).bind fun x82 => if x82 = true then (Res.ok false) else
  ((N_law_total_llpiiq x1).bind fun x27 =>
  ((((mulR x27.2 (x1.length : Int)).bind fun x28 => (mulR x28 (x1.length : Int))).bind fun x29 => (N_law_fraction_i_i x27.1 x29)).bind fun x30 =>
  ((lcR x1 (fun x31 => Res.ok true) (fun x31 => (lcR x31 (fun x32 => Res.ok true) (fun x32 => (N_law_added_piiq_piiq x32 x30))))).bind fun x33 =>
  (((N_law_break_llpiiq x1).bind fun x34 => (Res.ok (Option.isNone x34))).bind fun x35 =>
  ((if (!decide ((decide (x25 = x33)) = x35)) = true then Res.ok true else ((((N_plain_table_i_piiq (x1.length : Int) x30).bind fun x36 => (nx (N_Table_add_cTablettpiiqiq_cTablettpiiqiq x2 x36))).bind fun x37 => (nx (N_Table_eq_cTablettpiiqiq_cTablettpiiqiq x6 x37))).bind fun x38 => (Res.ok (!decide (x38 = x35))))).bind fun x81 => if x81 = true then (Res.ok false) else
  (((mulR 2 x27.1).bind fun x39 => ((mulR x27.2 (x1.length : Int)).bind fun x40 => (N_law_fraction_i_i x39 x40))).bind fun x41 =>
  ((((((N_even_lot_i (x1.length : Int)).bind fun x42 => (N_constant_load_cTablettpiiqiq_ti x2 x42)).bind fun x43 => (N_law_same_piiq_piiq x43 x41)).bind fun x44 => Res.ok (!x44)).bind fun x48 => (if x48 = true then Res.ok true else ((((nx (N_Table_mean_day_cTablettpiiqiq x2)).bind fun x45 => (N_law_timed_piiq_piiq x45 (2, 1))).bind fun x46 => (N_law_same_piiq_piiq x46 x41)).bind fun x47 => Res.ok (!x47)))).bind fun x80 => if x80 = true then (Res.ok false) else
  ((((N_law_cell_fi_i a0 2).bind fun x50 => (((repR [1001] (x1.length : Int)).bind fun x49 => (catR [3] x49)).bind fun x51 => (N_law_digits_i_li x50 x51))).bind fun x52 => (N_law_any_lot_i_li (x1.length : Int) x52)).bind fun x53 =>
  ((lcR x1 (fun x54 => Res.ok true) (fun x54 => (N_law_weighed_lpiiq_li x54 x53))).bind fun x55 =>
  ((lcR x10 (fun x56 => Res.ok true) (fun x56 => (N_law_weighed_lpiiq_li x56 x53))).bind fun x57 =>
  ((lcR x55 (fun x58 => Res.ok true) (fun x58 => (lcR x57 (fun x59 => Res.ok true) (fun x59 => (N_law_added_piiq_piiq x58 x59))))).bind fun x60 =>
  ((((rngR (x1.length : Int)).bind fun x64 => lcR x64 (fun x61 => Res.ok true) (fun x61 => ((ixR x12 x61).bind fun x62 => ((ixR x14 x61).bind fun x63 => (N_law_added_piiq_piiq x62 x63))))).bind fun x65 => (N_law_weighed_lpiiq_li x65 x53)).bind fun x66 =>
  ((((nx (((N_halfway_table_cTablettpiiqiq_li x2 x53).bind fun x67 => (Res.ok x67.1)).bind fun x68 => (N_law_same_ttpiiq_llpiiq x68 x60))).bind fun x69 => Res.ok (!x69)).bind fun x72 => (if x72 = true then Res.ok true else (((N_constant_load_cTablettpiiqiq_li x2 x53).bind fun x70 => (N_law_same_piiq_piiq x70 x66)).bind fun x71 => Res.ok (!x71)))).bind fun x79 => if x79 = true then (Res.ok false) else
  ((((N_law_cell_fi_i a0 3).bind fun x73 => ((repR [24] (x1.length : Int)).bind fun x74 => (N_law_digits_i_li x73 x74))).bind fun x75 => (N_law_day_i_li (x1.length : Int) x75)).bind fun x76 =>
  (((N_halfway_table_cTablettpiiqiq_li x2 x53).bind fun x77 => (N_day_sum_cTablettpiiqiq_ti x77 x76)).bind fun x78 => (N_law_same_piiq_piiq x78 x66)))))))))))))))))))))))))
theorem n_law_fi (a0 : (List Int)) : Rf (m_law [(eF D.int) a0]) (N_law_fi a0) D.bl :=
  n_runF ((t_seq fin_F (fun x1 : (List (List (Int × Int))) => [some ((eF D.int) a0), some ((eL (eL (eP2 D.int D.int))) x1), none, none, none, none, none, none, none, none, none, none, none, none, none, none, none, none, none, none, none, none, none, none, none, none, none, none, none]) (s_set (e := (eL (eL (eP2 D.int D.int)))) _ (q_on (a_p rfl (a_0 (rf_chk (n_law_drawn_rows2_fi a0) rfl)))) fun _ => rfl) fun x1 =>
  (t_seqp [some ((eF D.int) a0), some ((eL (eL (eP2 D.int D.int))) x1), some (D.int (x1.length : Int)), none, none, none, none, none, none, none, none, none, none, none, none, none, none, none, none, none, none, none, none, none, none, none, none, none, none] (set_p (evOn (evA rfl rfl) op_lenL) rfl) (t_seq fin_F (fun x2 : ((List (List (Int × Int))) × Int) => [some ((eF D.int) a0), some ((eL (eL (eP2 D.int D.int))) x1), some (D.int (x1.length : Int)), some ((eOb2 "Table" "rows" "size" (eT (eT (eP2 D.int D.int))) D.int) x2), none, none, none, none, none, none, none, none, none, none, none, none, none, none, none, none, none, none, none, none, none, none, none, none, none]) (s_set (e := (eOb2 "Table" "rows" "size" (eT (eT (eP2 D.int D.int))) D.int)) _ (q_on (a_p rfl (a_0 (rf_chk (n_Table_init_llpiiq x1) rfl)))) fun _ => rfl) fun x2 =>
  (t_seq fin_F (fun x5 : (List Int) => [some ((eF D.int) a0), some ((eL (eL (eP2 D.int D.int))) x1), some (D.int (x1.length : Int)), some ((eOb2 "Table" "rows" "size" (eT (eT (eP2 D.int D.int))) D.int) x2), some ((eL D.int) x5), none, none, none, none, none, none, none, none, none, none, none, none, none, none, none, none, none, none, none, none, none, none, none, none]) (s_set (e := (eL D.int)) _ (rf_lc (q_R1 (a_p rfl (a_0 k_R1))) (fun x3 : Int => [some ((eF D.int) a0), some ((eL (eL (eP2 D.int D.int))) x1), some (D.int (x1.length : Int)), some ((eOb2 "Table" "rows" "size" (eT (eT (eP2 D.int D.int))) D.int) x2), none, none, none, none, none, none, none, none, none, none, none, none, none, none, none, none, none, none, some (D.int x3), none, none, none, none, none, none]) (fun _ => rfl) (fun x3 => (rf_ok (v := true) rfl)) (fun x3 => (rf_ok (e := D.int) rfl))) fun _ => rfl) fun x5 =>
  (t_seq fin_F (fun x6 : ((List (List (Int × Int))) × Int) => [some ((eF D.int) a0), some ((eL (eL (eP2 D.int D.int))) x1), some (D.int (x1.length : Int)), some ((eOb2 "Table" "rows" "size" (eT (eT (eP2 D.int D.int))) D.int) x2), some ((eL D.int) x5), some ((eOb2 "Table" "rows" "size" (eT (eT (eP2 D.int D.int))) D.int) x6), none, none, none, none, none, none, none, none, none, none, none, none, none, none, none, none, none, none, none, none, none, none, none]) (s_set (e := (eOb2 "Table" "rows" "size" (eT (eT (eP2 D.int D.int))) D.int)) _ (q_on (a_p rfl (a_p rfl (a_0 (rf_chk (n_halfway_table_cTablettpiiqiq_li x2 x5) rfl))))) fun _ => rfl) fun x6 =>
  (t_seq fin_F (fun x10 : (List (List (Int × Int))) => [some ((eF D.int) a0), some ((eL (eL (eP2 D.int D.int))) x1), some (D.int (x1.length : Int)), some ((eOb2 "Table" "rows" "size" (eT (eT (eP2 D.int D.int))) D.int) x2), some ((eL D.int) x5), some ((eOb2 "Table" "rows" "size" (eT (eT (eP2 D.int D.int))) D.int) x6), some ((eL (eL (eP2 D.int D.int))) x10), none, none, none, none, none, none, none, none, none, none, none, none, none, none, none, none, none, none, none, none, none, none]) (s_set (e := (eL (eL (eP2 D.int D.int)))) _ (rf_lc (q_R1 (a_p rfl (a_0 k_R1))) (fun x7 : Int => [some ((eF D.int) a0), some ((eL (eL (eP2 D.int D.int))) x1), some (D.int (x1.length : Int)), some ((eOb2 "Table" "rows" "size" (eT (eT (eP2 D.int D.int))) D.int) x2), some ((eL D.int) x5), some ((eOb2 "Table" "rows" "size" (eT (eT (eP2 D.int D.int))) D.int) x6), none, none, none, none, none, none, none, none, none, none, none, none, none, none, none, none, none, some (D.int x7), none, none, none, none, none]) (fun _ => rfl) (fun x7 => (rf_ok (v := true) rfl)) (fun x7 => (rf_lcp (it_L (e := (eL (eP2 D.int D.int))) (xs := x1) rfl) (fun x8 : (List (Int × Int)) => [some ((eF D.int) a0), some ((eL (eL (eP2 D.int D.int))) x1), some (D.int (x1.length : Int)), some ((eOb2 "Table" "rows" "size" (eT (eT (eP2 D.int D.int))) D.int) x2), some ((eL D.int) x5), some ((eOb2 "Table" "rows" "size" (eT (eT (eP2 D.int D.int))) D.int) x6), none, none, none, none, none, none, none, none, none, none, none, none, none, none, none, none, none, some (D.int x7), some ((eL (eP2 D.int D.int)) x8), none, none, none, none]) (fun _ => rfl) (fun x8 => (rf_ok (v := true) rfl)) (fun x8 => (q_f2 (b_p rfl (b_p rfl op_ixL))))))) fun _ => rfl) fun x10 =>
  (t_seq fin_F (fun x12 : (List (Int × Int)) => [some ((eF D.int) a0), some ((eL (eL (eP2 D.int D.int))) x1), some (D.int (x1.length : Int)), some ((eOb2 "Table" "rows" "size" (eT (eT (eP2 D.int D.int))) D.int) x2), some ((eL D.int) x5), some ((eOb2 "Table" "rows" "size" (eT (eT (eP2 D.int D.int))) D.int) x6), some ((eL (eL (eP2 D.int D.int))) x10), some ((eL (eP2 D.int D.int)) x12), none, none, none, none, none, none, none, none, none, none, none, none, none, none, none, none, none, none, none, none, none]) (s_set (e := (eL (eP2 D.int D.int))) _ (rf_lcp (it_L (e := (eL (eP2 D.int D.int))) (xs := x1) rfl) (fun x11 : (List (Int × Int)) => [some ((eF D.int) a0), some ((eL (eL (eP2 D.int D.int))) x1), some (D.int (x1.length : Int)), some ((eOb2 "Table" "rows" "size" (eT (eT (eP2 D.int D.int))) D.int) x2), some ((eL D.int) x5), some ((eOb2 "Table" "rows" "size" (eT (eT (eP2 D.int D.int))) D.int) x6), some ((eL (eL (eP2 D.int D.int))) x10), none, none, none, none, none, none, none, none, none, none, none, none, none, none, none, none, none, some ((eL (eP2 D.int D.int)) x11), none, none, none, none]) (fun _ => rfl) (fun x11 => (rf_ok (v := true) rfl)) (fun x11 => (q_on (a_p rfl (a_0 (rf_chk (n_law_sum_lpiiq x11) rfl)))))) fun _ => rfl) fun x12 =>
  (t_seq fin_F (fun x14 : (List (Int × Int)) => [some ((eF D.int) a0), some ((eL (eL (eP2 D.int D.int))) x1), some (D.int (x1.length : Int)), some ((eOb2 "Table" "rows" "size" (eT (eT (eP2 D.int D.int))) D.int) x2), some ((eL D.int) x5), some ((eOb2 "Table" "rows" "size" (eT (eT (eP2 D.int D.int))) D.int) x6), some ((eL (eL (eP2 D.int D.int))) x10), some ((eL (eP2 D.int D.int)) x12), some ((eL (eP2 D.int D.int)) x14), none, none, none, none, none, none, none, none, none, none, none, none, none, none, none, none, none, none, none, none]) (s_set (e := (eL (eP2 D.int D.int))) _ (rf_lcp (it_L (e := (eL (eP2 D.int D.int))) (xs := x10) rfl) (fun x13 : (List (Int × Int)) => [some ((eF D.int) a0), some ((eL (eL (eP2 D.int D.int))) x1), some (D.int (x1.length : Int)), some ((eOb2 "Table" "rows" "size" (eT (eT (eP2 D.int D.int))) D.int) x2), some ((eL D.int) x5), some ((eOb2 "Table" "rows" "size" (eT (eT (eP2 D.int D.int))) D.int) x6), some ((eL (eL (eP2 D.int D.int))) x10), some ((eL (eP2 D.int D.int)) x12), none, none, none, none, none, none, none, none, none, none, none, none, none, none, none, none, none, some ((eL (eP2 D.int D.int)) x13), none, none, none]) (fun _ => rfl) (fun x13 => (rf_ok (v := true) rfl)) (fun x13 => (q_on (a_p rfl (a_0 (rf_chk (n_law_sum_lpiiq x13) rfl)))))) fun _ => rfl) fun x14 =>
  (t_seqp [some ((eF D.int) a0), some ((eL (eL (eP2 D.int D.int))) x1), some (D.int (x1.length : Int)), some ((eOb2 "Table" "rows" "size" (eT (eT (eP2 D.int D.int))) D.int) x2), some ((eL D.int) x5), some ((eOb2 "Table" "rows" "size" (eT (eT (eP2 D.int D.int))) D.int) x6), some ((eL (eL (eP2 D.int D.int))) x10), some ((eL (eP2 D.int D.int)) x12), some ((eL (eP2 D.int D.int)) x14), some ((eL (eL (eP2 D.int D.int))) []), none, none, none, none, none, none, none, none, none, none, none, none, none, none, none, none, none, none, none] (set_p rfl rfl) (t_seq fin_F (fun x25 : (List (List (Int × Int))) => [some ((eF D.int) a0), some ((eL (eL (eP2 D.int D.int))) x1), some (D.int (x1.length : Int)), some ((eOb2 "Table" "rows" "size" (eT (eT (eP2 D.int D.int))) D.int) x2), some ((eL D.int) x5), some ((eOb2 "Table" "rows" "size" (eT (eT (eP2 D.int D.int))) D.int) x6), some ((eL (eL (eP2 D.int D.int))) x10), some ((eL (eP2 D.int D.int)) x12), some ((eL (eP2 D.int D.int)) x14), some ((eL (eL (eP2 D.int D.int))) x25), none, none, none, none, none, none, none, none, none, none, none, none, none, none, none, none, none, none, none]) (s_for (ex := D.int) (s0 := []) (q_R1 (a_p rfl (a_0 k_R1))) (fun x15 : (List (List (Int × Int))) => [some ((eF D.int) a0), some ((eL (eL (eP2 D.int D.int))) x1), some (D.int (x1.length : Int)), some ((eOb2 "Table" "rows" "size" (eT (eT (eP2 D.int D.int))) D.int) x2), some ((eL D.int) x5), some ((eOb2 "Table" "rows" "size" (eT (eT (eP2 D.int D.int))) D.int) x6), some ((eL (eL (eP2 D.int D.int))) x10), some ((eL (eP2 D.int D.int)) x12), some ((eL (eP2 D.int D.int)) x14), some ((eL (eL (eP2 D.int D.int))) x15), none, none, none, none, none, none, none, none, none, none, none, none, none, none, none, none, none, none, none]) (fun (x15 : (List (List (Int × Int)))) (x16 : Int) => [some ((eF D.int) a0), some ((eL (eL (eP2 D.int D.int))) x1), some (D.int (x1.length : Int)), some ((eOb2 "Table" "rows" "size" (eT (eT (eP2 D.int D.int))) D.int) x2), some ((eL D.int) x5), some ((eOb2 "Table" "rows" "size" (eT (eT (eP2 D.int D.int))) D.int) x6), some ((eL (eL (eP2 D.int D.int))) x10), some ((eL (eP2 D.int D.int)) x12), some ((eL (eP2 D.int D.int)) x14), some ((eL (eL (eP2 D.int D.int))) x15), some (D.int x16), none, none, none, none, none, none, none, none, none, none, none, none, none, none, none, none, none, none]) rfl (fun _ _ => rfl) fun x15 x16 =>
  (t_seq fin_L (fun x23 : (List (List (Int × Int))) => [some ((eF D.int) a0), some ((eL (eL (eP2 D.int D.int))) x1), some (D.int (x1.length : Int)), some ((eOb2 "Table" "rows" "size" (eT (eT (eP2 D.int D.int))) D.int) x2), some ((eL D.int) x5), some ((eOb2 "Table" "rows" "size" (eT (eT (eP2 D.int D.int))) D.int) x6), some ((eL (eL (eP2 D.int D.int))) x10), some ((eL (eP2 D.int D.int)) x12), some ((eL (eP2 D.int D.int)) x14), some ((eL (eL (eP2 D.int D.int))) x23), some (D.int x16), none, none, none, none, none, none, none, none, none, none, none, none, none, none, none, none, none, none]) (s_appI (e := (eL (eP2 D.int D.int))) (xs := x15) (fun ys : (List (List (Int × Int))) => [some ((eF D.int) a0), some ((eL (eL (eP2 D.int D.int))) x1), some (D.int (x1.length : Int)), some ((eOb2 "Table" "rows" "size" (eT (eT (eP2 D.int D.int))) D.int) x2), some ((eL D.int) x5), some ((eOb2 "Table" "rows" "size" (eT (eT (eP2 D.int D.int))) D.int) x6), some ((eL (eL (eP2 D.int D.int))) x10), some ((eL (eP2 D.int D.int)) x12), some ((eL (eP2 D.int D.int)) x14), some ((eL (eL (eP2 D.int D.int))) ys), some (D.int x16), none, none, none, none, none, none, none, none, none, none, none, none, none, none, none, none, none, none]) rfl (rf_lc (q_R1 (a_p rfl (a_0 k_R1))) (fun x17 : Int => [some ((eF D.int) a0), some ((eL (eL (eP2 D.int D.int))) x1), some (D.int (x1.length : Int)), some ((eOb2 "Table" "rows" "size" (eT (eT (eP2 D.int D.int))) D.int) x2), some ((eL D.int) x5), some ((eOb2 "Table" "rows" "size" (eT (eT (eP2 D.int D.int))) D.int) x6), some ((eL (eL (eP2 D.int D.int))) x10), some ((eL (eP2 D.int D.int)) x12), some ((eL (eP2 D.int D.int)) x14), some ((eL (eL (eP2 D.int D.int))) x15), some (D.int x16), none, none, none, none, none, none, none, none, none, none, none, none, some (D.int x17), none, none, none, none, none]) (fun _ => rfl) (fun x17 => (rf_ok (v := true) rfl)) (fun x17 => (q_on (a_i (q_on (a_i (q_f2 (b_p rfl (b_p rfl op_ixL))) fun x18 => (a_i (q_f2 (b_p rfl (b_p rfl op_ixL))) fun x19 => (a_0 (rf_chk (n_law_added_piiq_piiq x18 x19) rfl))))) fun x20 => (a_p rfl (a_0 (rf_chk (n_law_timed_piiq_piiq x20 (1, (x1.length : Int))) rfl))))))) fun _ => rfl) fun x23 =>
  (t_next rfl))) fun x25 =>
  (t_ifI fin_F (q_Not (b_i (rNx (q_Tr (b_iT (q_on (a_p (ev1 rfl fld_hit) (a_p rfl (a_0 (rf_chk (n_law_same_ttpiiq_llpiiq x6.1 x25) rfl)))))))) fun _ => rf_ok rfl)) (t_retF (rf_ok (e := D.bl) rfl))
  (t_nextS (t_seq fin_F (fun x27 : (Int × Int) => [some ((eF D.int) a0), some ((eL (eL (eP2 D.int D.int))) x1), some (D.int (x1.length : Int)), some ((eOb2 "Table" "rows" "size" (eT (eT (eP2 D.int D.int))) D.int) x2), some ((eL D.int) x5), some ((eOb2 "Table" "rows" "size" (eT (eT (eP2 D.int D.int))) D.int) x6), some ((eL (eL (eP2 D.int D.int))) x10), some ((eL (eP2 D.int D.int)) x12), some ((eL (eP2 D.int D.int)) x14), some ((eL (eL (eP2 D.int D.int))) x25), none, some ((eP2 D.int D.int) x27), none, none, none, none, none, none, none, none, none, none, none, none, none, none, none, none, none]) (s_set (e := (eP2 D.int D.int)) _ (q_on (a_p rfl (a_0 (rf_chk (n_law_total_llpiiq x1) rfl)))) fun _ => rfl) fun x27 =>
  (t_seq fin_F (fun x30 : (Int × Int) => [some ((eF D.int) a0), some ((eL (eL (eP2 D.int D.int))) x1), some (D.int (x1.length : Int)), some ((eOb2 "Table" "rows" "size" (eT (eT (eP2 D.int D.int))) D.int) x2), some ((eL D.int) x5), some ((eOb2 "Table" "rows" "size" (eT (eT (eP2 D.int D.int))) D.int) x6), some ((eL (eL (eP2 D.int D.int))) x10), some ((eL (eP2 D.int D.int)) x12), some ((eL (eP2 D.int D.int)) x14), some ((eL (eL (eP2 D.int D.int))) x25), none, some ((eP2 D.int D.int) x27), some ((eP2 D.int D.int) x30), none, none, none, none, none, none, none, none, none, none, none, none, none, none, none, none]) (s_set (e := (eP2 D.int D.int)) _ (q_on (a_p rfl (a_i (q_f2 (b_i (q_f2 (b_p rfl (b_p rfl op_mul))) fun x28 => (b_p rfl op_mul))) fun x29 => (a_0 (rf_chk (n_law_fraction_i_i x27.1 x29) rfl))))) fun _ => rfl) fun x30 =>
  (t_seq fin_F (fun x33 : (List (List (Int × Int))) => [some ((eF D.int) a0), some ((eL (eL (eP2 D.int D.int))) x1), some (D.int (x1.length : Int)), some ((eOb2 "Table" "rows" "size" (eT (eT (eP2 D.int D.int))) D.int) x2), some ((eL D.int) x5), some ((eOb2 "Table" "rows" "size" (eT (eT (eP2 D.int D.int))) D.int) x6), some ((eL (eL (eP2 D.int D.int))) x10), some ((eL (eP2 D.int D.int)) x12), some ((eL (eP2 D.int D.int)) x14), some ((eL (eL (eP2 D.int D.int))) x25), none, some ((eP2 D.int D.int) x27), some ((eP2 D.int D.int) x30), some ((eL (eL (eP2 D.int D.int))) x33), none, none, none, none, none, none, none, none, none, none, none, none, none, none, none]) (s_set (e := (eL (eL (eP2 D.int D.int)))) _ (rf_lcp (it_L (e := (eL (eP2 D.int D.int))) (xs := x1) rfl) (fun x31 : (List (Int × Int)) => [some ((eF D.int) a0), some ((eL (eL (eP2 D.int D.int))) x1), some (D.int (x1.length : Int)), some ((eOb2 "Table" "rows" "size" (eT (eT (eP2 D.int D.int))) D.int) x2), some ((eL D.int) x5), some ((eOb2 "Table" "rows" "size" (eT (eT (eP2 D.int D.int))) D.int) x6), some ((eL (eL (eP2 D.int D.int))) x10), some ((eL (eP2 D.int D.int)) x12), some ((eL (eP2 D.int D.int)) x14), some ((eL (eL (eP2 D.int D.int))) x25), none, some ((eP2 D.int D.int) x27), some ((eP2 D.int D.int) x30), none, none, none, none, none, none, none, none, none, none, none, some ((eL (eP2 D.int D.int)) x31), none, none, none, none]) (fun _ => rfl) (fun x31 => (rf_ok (v := true) rfl)) (fun x31 => (rf_lcp (it_L (e := (eP2 D.int D.int)) (xs := x31) rfl) (fun x32 : (Int × Int) => [some ((eF D.int) a0), some ((eL (eL (eP2 D.int D.int))) x1), some (D.int (x1.length : Int)), some ((eOb2 "Table" "rows" "size" (eT (eT (eP2 D.int D.int))) D.int) x2), some ((eL D.int) x5), some ((eOb2 "Table" "rows" "size" (eT (eT (eP2 D.int D.int))) D.int) x6), some ((eL (eL (eP2 D.int D.int))) x10), some ((eL (eP2 D.int D.int)) x12), some ((eL (eP2 D.int D.int)) x14), some ((eL (eL (eP2 D.int D.int))) x25), none, some ((eP2 D.int D.int) x27), some ((eP2 D.int D.int) x30), none, none, none, none, none, none, none, none, none, none, none, some ((eL (eP2 D.int D.int)) x31), none, none, some ((eP2 D.int D.int) x32), none]) (fun _ => rfl) (fun x32 => (rf_ok (v := true) rfl)) (fun x32 => (q_on (a_p rfl (a_p rfl (a_0 (rf_chk (n_law_added_piiq_piiq x32 x30) rfl))))))))) fun _ => rfl) fun x33 =>
  (t_seq fin_F (fun x35 : Bool => [some ((eF D.int) a0), some ((eL (eL (eP2 D.int D.int))) x1), some (D.int (x1.length : Int)), some ((eOb2 "Table" "rows" "size" (eT (eT (eP2 D.int D.int))) D.int) x2), some ((eL D.int) x5), some ((eOb2 "Table" "rows" "size" (eT (eT (eP2 D.int D.int))) D.int) x6), some ((eL (eL (eP2 D.int D.int))) x10), some ((eL (eP2 D.int D.int)) x12), some ((eL (eP2 D.int D.int)) x14), some ((eL (eL (eP2 D.int D.int))) x25), none, some ((eP2 D.int D.int) x27), some ((eP2 D.int D.int) x30), some ((eL (eL (eP2 D.int D.int))) x33), some (D.bl x35), none, none, none, none, none, none, none, none, none, none, none, none, none, none]) (s_set (e := D.bl) _ (q_f1 (b_i (q_on (a_p rfl (a_0 (rf_chk (n_law_break_llpiiq x1) rfl)))) fun x34 => (rf_ok (op_isN fun _ => rfl)))) fun _ => rfl) fun x35 =>
  (t_ifI fin_F (rOr (evB (ev2 (evSc (ev2 rfl rfl (op_eq (e := (eL (eL (eP2 D.int D.int)))) (x := x25) (x' := x33))) rfl) rfl (op_ne (e := D.bl) (x := (decide (x25 = x33))) (x' := x35)))) (q_B (b_iB (q_f2 (b_i (q_f2 (b_p rfl (b_i (q_f2 (b_p rfl (b_i (q_on (a_p rfl (a_p rfl (a_0 (rf_chk (n_plain_table_i_piiq (x1.length : Int) x30) rfl))))) fun x36 => (rf_binO (n_Table_add_cTablettpiiqiq_cTablettpiiqiq x2 x36) rfl rfl fun z => ⟨"Table", rfl⟩)))) fun x37 => (rf_eqO (n_Table_eq_cTablettpiiqiq_cTablettpiiqiq x6 x37) rfl rfl)))) fun x38 => (b_p rfl (rf_ok (op_ne (e := D.bl) (x := x38) (x' := x35))))))))) (t_retF (rf_ok (e := D.bl) rfl))
  (t_nextS (t_seq fin_F (fun x41 : (Int × Int) => [some ((eF D.int) a0), some ((eL (eL (eP2 D.int D.int))) x1), some (D.int (x1.length : Int)), some ((eOb2 "Table" "rows" "size" (eT (eT (eP2 D.int D.int))) D.int) x2), some ((eL D.int) x5), some ((eOb2 "Table" "rows" "size" (eT (eT (eP2 D.int D.int))) D.int) x6), some ((eL (eL (eP2 D.int D.int))) x10), some ((eL (eP2 D.int D.int)) x12), some ((eL (eP2 D.int D.int)) x14), some ((eL (eL (eP2 D.int D.int))) x25), none, some ((eP2 D.int D.int) x27), some ((eP2 D.int D.int) x30), some ((eL (eL (eP2 D.int D.int))) x33), some (D.bl x35), some ((eP2 D.int D.int) x41), none, none, none, none, none, none, none, none, none, none, none, none, none]) (s_set (e := (eP2 D.int D.int)) _ (q_on (a_i (q_f2 (b_p rfl (b_p rfl op_mul))) fun x39 => (a_i (q_f2 (b_p rfl (b_p rfl op_mul))) fun x40 => (a_0 (rf_chk (n_law_fraction_i_i x39 x40) rfl))))) fun _ => rfl) fun x41 =>
  (t_ifI fin_F (rOrI (q_Not (b_i (q_Tr (b_iT (q_on (a_i (q_on (a_p rfl (a_i (q_on (a_p rfl (a_0 (rf_chk (n_even_lot_i (x1.length : Int)) rfl)))) fun x42 => (a_0 (rf_chk (n_constant_load_cTablettpiiqiq_ti x2 x42) rfl))))) fun x43 => (a_p rfl (a_0 (rf_chk (n_law_same_piiq_piiq x43 x41) rfl))))))) fun _ => rf_ok rfl)) (q_Not (b_i (q_Tr (b_iT (q_on (a_i (q_on (a_i (q_f1 (b_p rfl (q_prop (n_Table_mean_day_cTablettpiiqiq x2)))) fun x45 => (a_p rfl (a_0 (rf_chk (n_law_timed_piiq_piiq x45 (2, 1)) rfl))))) fun x46 => (a_p rfl (a_0 (rf_chk (n_law_same_piiq_piiq x46 x41) rfl))))))) fun _ => rf_ok rfl))) (t_retF (rf_ok (e := D.bl) rfl))
  (t_nextS (t_seq fin_F (fun x53 : (List Int) => [some ((eF D.int) a0), some ((eL (eL (eP2 D.int D.int))) x1), some (D.int (x1.length : Int)), some ((eOb2 "Table" "rows" "size" (eT (eT (eP2 D.int D.int))) D.int) x2), some ((eL D.int) x5), some ((eOb2 "Table" "rows" "size" (eT (eT (eP2 D.int D.int))) D.int) x6), some ((eL (eL (eP2 D.int D.int))) x10), some ((eL (eP2 D.int D.int)) x12), some ((eL (eP2 D.int D.int)) x14), some ((eL (eL (eP2 D.int D.int))) x25), none, some ((eP2 D.int D.int) x27), some ((eP2 D.int D.int) x30), some ((eL (eL (eP2 D.int D.int))) x33), some (D.bl x35), some ((eP2 D.int D.int) x41), some ((eL D.int) x53), none, none, none, none, none, none, none, none, none, none, none, none]) (s_set (e := (eL D.int)) _ (q_on (a_p rfl (a_i (q_on (a_i (q_on (a_p rfl (a_p rfl (a_0 (rf_chk (n_law_cell_fi_i a0 2) rfl))))) fun x50 => (a_i (q_f2 (b_p rfl (b_i (q_f2 (b_p rfl (b_p rfl (op_rep (e := D.int))))) fun x49 => (op_catLL (e := D.int))))) fun x51 => (a_0 (rf_chk (n_law_digits_i_li x50 x51) rfl))))) fun x52 => (a_0 (rf_chk (n_law_any_lot_i_li (x1.length : Int) x52) rfl))))) fun _ => rfl) fun x53 =>
  (t_seq fin_F (fun x55 : (List (Int × Int)) => [some ((eF D.int) a0), some ((eL (eL (eP2 D.int D.int))) x1), some (D.int (x1.length : Int)), some ((eOb2 "Table" "rows" "size" (eT (eT (eP2 D.int D.int))) D.int) x2), some ((eL D.int) x5), some ((eOb2 "Table" "rows" "size" (eT (eT (eP2 D.int D.int))) D.int) x6), some ((eL (eL (eP2 D.int D.int))) x10), some ((eL (eP2 D.int D.int)) x12), some ((eL (eP2 D.int D.int)) x14), some ((eL (eL (eP2 D.int D.int))) x25), none, some ((eP2 D.int D.int) x27), some ((eP2 D.int D.int) x30), some ((eL (eL (eP2 D.int D.int))) x33), some (D.bl x35), some ((eP2 D.int D.int) x41), some ((eL D.int) x53), some ((eL (eP2 D.int D.int)) x55), none, none, none, none, none, none, none, none, none, none, none]) (s_set (e := (eL (eP2 D.int D.int))) _ (rf_lcp (it_L (e := (eL (eP2 D.int D.int))) (xs := x1) rfl) (fun x54 : (List (Int × Int)) => [some ((eF D.int) a0), some ((eL (eL (eP2 D.int D.int))) x1), some (D.int (x1.length : Int)), some ((eOb2 "Table" "rows" "size" (eT (eT (eP2 D.int D.int))) D.int) x2), some ((eL D.int) x5), some ((eOb2 "Table" "rows" "size" (eT (eT (eP2 D.int D.int))) D.int) x6), some ((eL (eL (eP2 D.int D.int))) x10), some ((eL (eP2 D.int D.int)) x12), some ((eL (eP2 D.int D.int)) x14), some ((eL (eL (eP2 D.int D.int))) x25), none, some ((eP2 D.int D.int) x27), some ((eP2 D.int D.int) x30), some ((eL (eL (eP2 D.int D.int))) x33), some (D.bl x35), some ((eP2 D.int D.int) x41), some ((eL D.int) x53), none, none, none, none, none, none, none, some ((eL (eP2 D.int D.int)) x54), none, none, none, none]) (fun _ => rfl) (fun x54 => (rf_ok (v := true) rfl)) (fun x54 => (q_on (a_p rfl (a_p rfl (a_0 (rf_chk (n_law_weighed_lpiiq_li x54 x53) rfl))))))) fun _ => rfl) fun x55 =>
  (t_seq fin_F (fun x57 : (List (Int × Int)) => [some ((eF D.int) a0), some ((eL (eL (eP2 D.int D.int))) x1), some (D.int (x1.length : Int)), some ((eOb2 "Table" "rows" "size" (eT (eT (eP2 D.int D.int))) D.int) x2), some ((eL D.int) x5), some ((eOb2 "Table" "rows" "size" (eT (eT (eP2 D.int D.int))) D.int) x6), some ((eL (eL (eP2 D.int D.int))) x10), some ((eL (eP2 D.int D.int)) x12), some ((eL (eP2 D.int D.int)) x14), some ((eL (eL (eP2 D.int D.int))) x25), none, some ((eP2 D.int D.int) x27), some ((eP2 D.int D.int) x30), some ((eL (eL (eP2 D.int D.int))) x33), some (D.bl x35), some ((eP2 D.int D.int) x41), some ((eL D.int) x53), some ((eL (eP2 D.int D.int)) x55), some ((eL (eP2 D.int D.int)) x57), none, none, none, none, none, none, none, none, none, none]) (s_set (e := (eL (eP2 D.int D.int))) _ (rf_lcp (it_L (e := (eL (eP2 D.int D.int))) (xs := x10) rfl) (fun x56 : (List (Int × Int)) => [some ((eF D.int) a0), some ((eL (eL (eP2 D.int D.int))) x1), some (D.int (x1.length : Int)), some ((eOb2 "Table" "rows" "size" (eT (eT (eP2 D.int D.int))) D.int) x2), some ((eL D.int) x5), some ((eOb2 "Table" "rows" "size" (eT (eT (eP2 D.int D.int))) D.int) x6), some ((eL (eL (eP2 D.int D.int))) x10), some ((eL (eP2 D.int D.int)) x12), some ((eL (eP2 D.int D.int)) x14), some ((eL (eL (eP2 D.int D.int))) x25), none, some ((eP2 D.int D.int) x27), some ((eP2 D.int D.int) x30), some ((eL (eL (eP2 D.int D.int))) x33), some (D.bl x35), some ((eP2 D.int D.int) x41), some ((eL D.int) x53), some ((eL (eP2 D.int D.int)) x55), none, none, none, none, none, none, none, some ((eL (eP2 D.int D.int)) x56), none, none, none]) (fun _ => rfl) (fun x56 => (rf_ok (v := true) rfl)) (fun x56 => (q_on (a_p rfl (a_p rfl (a_0 (rf_chk (n_law_weighed_lpiiq_li x56 x53) rfl))))))) fun _ => rfl) fun x57 =>
  (t_seq fin_F (fun x60 : (List (List (Int × Int))) => [some ((eF D.int) a0), some ((eL (eL (eP2 D.int D.int))) x1), some (D.int (x1.length : Int)), some ((eOb2 "Table" "rows" "size" (eT (eT (eP2 D.int D.int))) D.int) x2), some ((eL D.int) x5), some ((eOb2 "Table" "rows" "size" (eT (eT (eP2 D.int D.int))) D.int) x6), some ((eL (eL (eP2 D.int D.int))) x10), some ((eL (eP2 D.int D.int)) x12), some ((eL (eP2 D.int D.int)) x14), some ((eL (eL (eP2 D.int D.int))) x25), none, some ((eP2 D.int D.int) x27), some ((eP2 D.int D.int) x30), some ((eL (eL (eP2 D.int D.int))) x33), some (D.bl x35), some ((eP2 D.int D.int) x41), some ((eL D.int) x53), some ((eL (eP2 D.int D.int)) x55), some ((eL (eP2 D.int D.int)) x57), some ((eL (eL (eP2 D.int D.int))) x60), none, none, none, none, none, none, none, none, none]) (s_set (e := (eL (eL (eP2 D.int D.int)))) _ (rf_lcp (it_L (e := (eP2 D.int D.int)) (xs := x55) rfl) (fun x58 : (Int × Int) => [some ((eF D.int) a0), some ((eL (eL (eP2 D.int D.int))) x1), some (D.int (x1.length : Int)), some ((eOb2 "Table" "rows" "size" (eT (eT (eP2 D.int D.int))) D.int) x2), some ((eL D.int) x5), some ((eOb2 "Table" "rows" "size" (eT (eT (eP2 D.int D.int))) D.int) x6), some ((eL (eL (eP2 D.int D.int))) x10), some ((eL (eP2 D.int D.int)) x12), some ((eL (eP2 D.int D.int)) x14), some ((eL (eL (eP2 D.int D.int))) x25), none, some ((eP2 D.int D.int) x27), some ((eP2 D.int D.int) x30), some ((eL (eL (eP2 D.int D.int))) x33), some (D.bl x35), some ((eP2 D.int D.int) x41), some ((eL D.int) x53), some ((eL (eP2 D.int D.int)) x55), some ((eL (eP2 D.int D.int)) x57), none, none, none, none, none, none, none, some ((eP2 D.int D.int) x58), none, none]) (fun _ => rfl) (fun x58 => (rf_ok (v := true) rfl)) (fun x58 => (rf_lcp (it_L (e := (eP2 D.int D.int)) (xs := x57) rfl) (fun x59 : (Int × Int) => [some ((eF D.int) a0), some ((eL (eL (eP2 D.int D.int))) x1), some (D.int (x1.length : Int)), some ((eOb2 "Table" "rows" "size" (eT (eT (eP2 D.int D.int))) D.int) x2), some ((eL D.int) x5), some ((eOb2 "Table" "rows" "size" (eT (eT (eP2 D.int D.int))) D.int) x6), some ((eL (eL (eP2 D.int D.int))) x10), some ((eL (eP2 D.int D.int)) x12), some ((eL (eP2 D.int D.int)) x14), some ((eL (eL (eP2 D.int D.int))) x25), none, some ((eP2 D.int D.int) x27), some ((eP2 D.int D.int) x30), some ((eL (eL (eP2 D.int D.int))) x33), some (D.bl x35), some ((eP2 D.int D.int) x41), some ((eL D.int) x53), some ((eL (eP2 D.int D.int)) x55), some ((eL (eP2 D.int D.int)) x57), none, none, none, none, none, none, none, some ((eP2 D.int D.int) x58), none, some ((eP2 D.int D.int) x59)]) (fun _ => rfl) (fun x59 => (rf_ok (v := true) rfl)) (fun x59 => (q_on (a_p rfl (a_p rfl (a_0 (rf_chk (n_law_added_piiq_piiq x58 x59) rfl))))))))) fun _ => rfl) fun x60 =>
  (t_seq fin_F (fun x66 : (Int × Int) => [some ((eF D.int) a0), some ((eL (eL (eP2 D.int D.int))) x1), some (D.int (x1.length : Int)), some ((eOb2 "Table" "rows" "size" (eT (eT (eP2 D.int D.int))) D.int) x2), some ((eL D.int) x5), some ((eOb2 "Table" "rows" "size" (eT (eT (eP2 D.int D.int))) D.int) x6), some ((eL (eL (eP2 D.int D.int))) x10), some ((eL (eP2 D.int D.int)) x12), some ((eL (eP2 D.int D.int)) x14), some ((eL (eL (eP2 D.int D.int))) x25), none, some ((eP2 D.int D.int) x27), some ((eP2 D.int D.int) x30), some ((eL (eL (eP2 D.int D.int))) x33), some (D.bl x35), some ((eP2 D.int D.int) x41), some ((eL D.int) x53), some ((eL (eP2 D.int D.int)) x55), some ((eL (eP2 D.int D.int)) x57), some ((eL (eL (eP2 D.int D.int))) x60), some ((eP2 D.int D.int) x66), none, none, none, none, none, none, none, none]) (s_set (e := (eP2 D.int D.int)) _ (q_on (a_i (rf_lc (q_R1 (a_p rfl (a_0 k_R1))) (fun x61 : Int => [some ((eF D.int) a0), some ((eL (eL (eP2 D.int D.int))) x1), some (D.int (x1.length : Int)), some ((eOb2 "Table" "rows" "size" (eT (eT (eP2 D.int D.int))) D.int) x2), some ((eL D.int) x5), some ((eOb2 "Table" "rows" "size" (eT (eT (eP2 D.int D.int))) D.int) x6), some ((eL (eL (eP2 D.int D.int))) x10), some ((eL (eP2 D.int D.int)) x12), some ((eL (eP2 D.int D.int)) x14), some ((eL (eL (eP2 D.int D.int))) x25), none, some ((eP2 D.int D.int) x27), some ((eP2 D.int D.int) x30), some ((eL (eL (eP2 D.int D.int))) x33), some (D.bl x35), some ((eP2 D.int D.int) x41), some ((eL D.int) x53), some ((eL (eP2 D.int D.int)) x55), some ((eL (eP2 D.int D.int)) x57), some ((eL (eL (eP2 D.int D.int))) x60), none, none, some (D.int x61), none, none, none, none, none, none]) (fun _ => rfl) (fun x61 => (rf_ok (v := true) rfl)) (fun x61 => (q_on (a_i (q_f2 (b_p rfl (b_p rfl op_ixL))) fun x62 => (a_i (q_f2 (b_p rfl (b_p rfl op_ixL))) fun x63 => (a_0 (rf_chk (n_law_added_piiq_piiq x62 x63) rfl))))))) fun x65 => (a_p rfl (a_0 (rf_chk (n_law_weighed_lpiiq_li x65 x53) rfl))))) fun _ => rfl) fun x66 =>
  (t_ifI fin_F (rOrI (q_Not (b_i (rNx (q_Tr (b_iT (q_on (a_i (q_f1 (b_i (q_on (a_p rfl (a_p rfl (a_0 (rf_chk (n_halfway_table_cTablettpiiqiq_li x2 x53) rfl))))) fun x67 => (rf_ok fld_hit))) fun x68 => (a_p rfl (a_0 (rf_chk (n_law_same_ttpiiq_llpiiq x68 x60) rfl)))))))) fun _ => rf_ok rfl)) (q_Not (b_i (q_Tr (b_iT (q_on (a_i (q_on (a_p rfl (a_p rfl (a_0 (rf_chk (n_constant_load_cTablettpiiqiq_li x2 x53) rfl))))) fun x70 => (a_p rfl (a_0 (rf_chk (n_law_same_piiq_piiq x70 x66) rfl))))))) fun _ => rf_ok rfl))) (t_retF (rf_ok (e := D.bl) rfl))
  (t_nextS (t_seq fin_F (fun x76 : (List Int) => [some ((eF D.int) a0), some ((eL (eL (eP2 D.int D.int))) x1), some (D.int (x1.length : Int)), some ((eOb2 "Table" "rows" "size" (eT (eT (eP2 D.int D.int))) D.int) x2), some ((eL D.int) x5), some ((eOb2 "Table" "rows" "size" (eT (eT (eP2 D.int D.int))) D.int) x6), some ((eL (eL (eP2 D.int D.int))) x10), some ((eL (eP2 D.int D.int)) x12), some ((eL (eP2 D.int D.int)) x14), some ((eL (eL (eP2 D.int D.int))) x25), none, some ((eP2 D.int D.int) x27), some ((eP2 D.int D.int) x30), some ((eL (eL (eP2 D.int D.int))) x33), some (D.bl x35), some ((eP2 D.int D.int) x41), some ((eL D.int) x53), some ((eL (eP2 D.int D.int)) x55), some ((eL (eP2 D.int D.int)) x57), some ((eL (eL (eP2 D.int D.int))) x60), some ((eP2 D.int D.int) x66), some ((eT D.int) x76), none, none, none, none, none, none, none]) (s_set (e := (eT D.int)) _ (q_on (a_p rfl (a_i (q_on (a_i (q_on (a_p rfl (a_p rfl (a_0 (rf_chk (n_law_cell_fi_i a0 3) rfl))))) fun x73 => (a_i (q_f2 (b_p rfl (b_p rfl (op_rep (e := D.int))))) fun x74 => (a_0 (rf_chk (n_law_digits_i_li x73 x74) rfl))))) fun x75 => (a_0 (rf_chk (n_law_day_i_li (x1.length : Int) x75) rfl))))) fun _ => rfl) fun x76 =>
  (t_end (t_retF (q_on (a_i (q_on (a_i (q_on (a_p rfl (a_p rfl (a_0 (rf_chk (n_halfway_table_cTablettpiiqiq_li x2 x53) rfl))))) fun x77 => (a_p rfl (a_0 (rf_chk (n_day_sum_cTablettpiiqiq_ti x77 x76) rfl))))) fun x78 => (a_p rfl (a_0 (rf_chk (n_law_same_piiq_piiq x78 x66) rfl)))))))))))))))))))))))))))))))))))))
end Kx
namespace Kx
open PySem PySem.Spec L2 Da
def top (i : Nat) : Stmt := PySem.Challenge.pw_nobadday_k56_own_halfway.main.body.getD i (.Pass ⟨0, 0, 0, 0⟩)
abbrev s_law_digits : Stmt := top 38
abbrev s_law_gcd : Stmt := top 40
abbrev s_law_fraction : Stmt := top 41
abbrev s_law_table_rows2 : Stmt := top 45
abbrev s_law_cell : Stmt := top 37
abbrev s_law_added : Stmt := top 42
abbrev s_law_split_rows2 : Stmt := top 46
abbrev s_law_drawn_rows2 : Stmt := top 50
abbrev s_is_number : Stmt := top 11
abbrev s_as_fraction : Stmt := top 19
abbrev s_checked_rows : Stmt := top 24
abbrev s_frozen : Stmt := top 10
abbrev s_Table_init : Stmt := inCls (top 28) 0
abbrev s_checked_lot : Stmt := top 15
abbrev s_ratio : Stmt := top 18
abbrev s_added : Stmt := top 20
abbrev s_fraction_sum : Stmt := top 22
abbrev s_weighed : Stmt := top 32
abbrev s_turned_rows : Stmt := top 26
abbrev s_Table_turned : Stmt := inCls (top 28) 7
abbrev s_halfway_table : Stmt := top 33
abbrev s_law_total : Stmt := top 48
abbrev s_law_any_lot : Stmt := top 49
abbrev s_law_timed : Stmt := top 43
abbrev s_law_weighed : Stmt := top 52
abbrev s_law_day : Stmt := top 39
abbrev s_law_whole : Stmt := top 36
abbrev s_law_same : Stmt := top 44
abbrev s_law_sum : Stmt := top 51
abbrev s_law_break : Stmt := top 47
abbrev s_day_sum : Stmt := top 30
abbrev s_Table_eq : Stmt := inCls (top 28) 10
abbrev s_less : Stmt := top 21
abbrev s_joined_rows : Stmt := top 25
abbrev s_Table_add : Stmt := inCls (top 28) 8
abbrev s_line_sums : Stmt := top 27
abbrev s_Table_row_sums : Stmt := inCls (top 28) 1
abbrev s_Table_column_sums : Stmt := inCls (top 28) 2
abbrev s_constant_load : Stmt := top 34
abbrev s_plain_table : Stmt := top 29
abbrev s_even_lot : Stmt := top 16
abbrev s_Table_mean_day : Stmt := inCls (top 28) 4
abbrev s_law : Stmt := top 53
abbrev s_BadTable_init : Stmt := inCls (top 6) 0
abbrev s_SizesDiffer_init : Stmt := inCls (top 7) 0
abbrev s_BadSize_init : Stmt := inCls (top 5) 0
/-- what stands behind the top -/
structure Txt (K : PySem.W.Frag) (mg : Str → Option Value) : Prop where
  d_law_digits : DefAt K mg "_law_digits" "_law_digits" s_law_digits ["cell", "sizes"]
  d_law_gcd : DefAt K mg "_law_gcd" "_law_gcd" s_law_gcd ["a", "b"]
  d_law_fraction : DefAt K mg "_law_fraction" "_law_fraction" s_law_fraction ["top", "bottom"]
  d_law_table_rows2 : DefAt K mg "_law_table_rows" "_law_table_rows" s_law_table_rows2 ["size", "row"]
  d_law_cell : DefAt K mg "_law_cell" "_law_cell" s_law_cell ["script", "k"]
  d_law_added : DefAt K mg "_law_added" "_law_added" s_law_added ["one", "two"]
  d_law_split_rows2 : DefAt K mg "_law_split_rows" "_law_split_rows" s_law_split_rows2 ["size", "row"]
  d_law_drawn_rows2 : DefAt K mg "_law_drawn_rows" "_law_drawn_rows" s_law_drawn_rows2 ["script"]
  d_is_number : DefAt K mg "is_number" "is_number" s_is_number ["value"]
  d_as_fraction : DefAt K mg "as_fraction" "as_fraction" s_as_fraction ["value"]
  d_checked_rows : DefAt K mg "checked_rows" "checked_rows" s_checked_rows ["rows"]
  d_frozen : DefAt K mg "frozen" "frozen" s_frozen ["value"]
  d_Table_init : InitAt K mg "Table" "Table.__init__" s_Table_init ["self", "rows"]
  d_checked_lot : DefAt K mg "checked_lot" "checked_lot" s_checked_lot ["lot", "size"]
  d_ratio : DefAt K mg "ratio" "ratio" s_ratio ["top", "bottom"]
  d_added : DefAt K mg "added" "added" s_added ["one", "two"]
  d_fraction_sum : DefAt K mg "fraction_sum" "fraction_sum" s_fraction_sum ["values"]
  d_weighed : DefAt K mg "weighed" "weighed" s_weighed ["items", "lot"]
  d_turned_rows : DefAt K mg "turned_rows" "turned_rows" s_turned_rows ["rows"]
  d_Table_turned : MethAt K mg "Table" "turned" "Table.turned" s_Table_turned ["self"]
  d_halfway_table : DefAt K mg "halfway_table" "halfway_table" s_halfway_table ["table", "lot"]
  d_law_total : DefAt K mg "_law_total" "_law_total" s_law_total ["rows"]
  d_law_any_lot : DefAt K mg "_law_any_lot" "_law_any_lot" s_law_any_lot ["size", "row"]
  d_law_timed : DefAt K mg "_law_timed" "_law_timed" s_law_timed ["one", "two"]
  d_law_weighed : DefAt K mg "_law_weighed" "_law_weighed" s_law_weighed ["items", "lot"]
  d_law_day : DefAt K mg "_law_day" "_law_day" s_law_day ["size", "row"]
  d_law_whole : DefAt K mg "_law_whole" "_law_whole" s_law_whole ["value"]
  d_law_same : DefAt K mg "_law_same" "_law_same" s_law_same ["value", "due"]
  d_law_sum : DefAt K mg "_law_sum" "_law_sum" s_law_sum ["items"]
  d_law_break : DefAt K mg "_law_break" "_law_break" s_law_break ["rows"]
  d_day_sum : DefAt K mg "day_sum" "day_sum" s_day_sum ["table", "day"]
  d_Table_eq : MethAt K mg "Table" "__eq__" "Table.__eq__" s_Table_eq ["self", "other"]
  d_less : DefAt K mg "less" "less" s_less ["one", "two"]
  d_joined_rows : DefAt K mg "joined_rows" "joined_rows" s_joined_rows ["one", "two", "sign"]
  d_Table_add : MethAt K mg "Table" "__add__" "Table.__add__" s_Table_add ["self", "other"]
  d_line_sums : DefAt K mg "line_sums" "line_sums" s_line_sums ["rows"]
  d_Table_row_sums : PropAt K mg "Table" "row_sums" "Table.row_sums" s_Table_row_sums ["self"]
  d_Table_column_sums : PropAt K mg "Table" "column_sums" "Table.column_sums" s_Table_column_sums ["self"]
  d_constant_load : DefAt K mg "constant_load" "constant_load" s_constant_load ["table", "lot"]
  d_plain_table : DefAt K mg "plain_table" "plain_table" s_plain_table ["size", "number"]
  d_even_lot : DefAt K mg "even_lot" "even_lot" s_even_lot ["size"]
  d_Table_mean_day : PropAt K mg "Table" "mean_day" "Table.mean_day" s_Table_mean_day ["self"]
  f_Table_rows : FldAt K mg "Table" "rows"
  f_Table_size : FldAt K mg "Table" "size"
  g_gcd : mg "gcd" = some (.builtin "math.gcd")
  sf_Table : SelfF K mg "Table"
  e_BadTable : ErrAt K mg "BadTable" "BadTable.__init__" s_BadTable_init ["self", "index"] ["index"]
  e0_BadLot : Err0 K mg "BadLot"
  e0_ZeroBottom : Err0 K mg "ZeroBottom"
  e_SizesDiffer : ErrAt K mg "SizesDiffer" "SizesDiffer.__init__" s_SizesDiffer_init ["self", "one", "two"] ["one", "two"]
  e_BadSize : ErrAt K mg "BadSize" "BadSize.__init__" s_BadSize_init ["self", "size"] ["size"]
  c_MOST_NODES : GlobI mg "MOST_NODES" 24
  c_MOST_WEIGHT : GlobI mg "MOST_WEIGHT" 1000
  i_Table_Table : ClsI K mg "Table" [("Table", true)]
  z_abs : mg "abs" = none
  z_all : mg "all" = none
  z_bool : mg "bool" = none
  z_enumerate : mg "enumerate" = none
  z_int : mg "int" = none
  z_isinstance : mg "isinstance" = none
  z_len : mg "len" = none
  z_list : mg "list" = none
  z_range : mg "range" = none
  z_str : mg "str" = none
  z_sum : mg "sum" = none
  z_tuple : mg "tuple" = none
  z_zip : mg "zip" = none
theorem sc_BadTable_init : FnScope ["self", "index"] ["self", "index"] (defScope s_BadTable_init) := ⟨rfl, rfl, rfl, by decide +kernel, rfl, by decide +kernel, by decide +kernel⟩
theorem oe_BadTable {P : Program} {w : World} {K : PySem.W.Frag} {mg : Str → Option Value} {base : Heap} (T : Txt K mg) : ErrN P w K mg base "BadTable" 1 ["index"] :=
  errN_of (fj := [("index", 1)]) T.e_BadTable sc_BadTable_init rfl (by decide) rfl rfl (by decide) (by decide) fun f cdv A outer s H E =>
    (pss_cons (ps_ost (pe_var (i := 0) rfl (by first | exact Or.inl rfl | exact Or.inr (Or.inl rfl) | exact Or.inr (Or.inr rfl))) (pe_var (i := 1) rfl (by first | exact Or.inl rfl | exact Or.inr (Or.inl rfl) | exact Or.inr (Or.inr rfl)))) pss_nil)
theorem sc_SizesDiffer_init : FnScope ["self", "one", "two"] ["self", "one", "two"] (defScope s_SizesDiffer_init) := ⟨rfl, rfl, rfl, by decide +kernel, rfl, by decide +kernel, by decide +kernel⟩
theorem oe_SizesDiffer {P : Program} {w : World} {K : PySem.W.Frag} {mg : Str → Option Value} {base : Heap} (T : Txt K mg) : ErrN P w K mg base "SizesDiffer" 1 ["one", "two"] :=
  errN_of (fj := [("one", 1), ("two", 2)]) T.e_SizesDiffer sc_SizesDiffer_init rfl (by decide) rfl rfl (by decide) (by decide) fun f cdv A outer s H E =>
    (pss_cons (ps_ost (pe_var (i := 0) rfl (by first | exact Or.inl rfl | exact Or.inr (Or.inl rfl) | exact Or.inr (Or.inr rfl))) (pe_var (i := 1) rfl (by first | exact Or.inl rfl | exact Or.inr (Or.inl rfl) | exact Or.inr (Or.inr rfl)))) (pss_cons (ps_ost (pe_var (i := 0) rfl (by first | exact Or.inl rfl | exact Or.inr (Or.inl rfl) | exact Or.inr (Or.inr rfl))) (pe_var (i := 2) rfl (by first | exact Or.inl rfl | exact Or.inr (Or.inl rfl) | exact Or.inr (Or.inr rfl)))) pss_nil))
theorem sc_BadSize_init : FnScope ["self", "size"] ["self", "size"] (defScope s_BadSize_init) := ⟨rfl, rfl, rfl, by decide +kernel, rfl, by decide +kernel, by decide +kernel⟩
theorem oe_BadSize {P : Program} {w : World} {K : PySem.W.Frag} {mg : Str → Option Value} {base : Heap} (T : Txt K mg) : ErrN P w K mg base "BadSize" 1 ["size"] :=
  errN_of (fj := [("size", 1)]) T.e_BadSize sc_BadSize_init rfl (by decide) rfl rfl (by decide) (by decide) fun f cdv A outer s H E =>
    (pss_cons (ps_ost (pe_var (i := 0) rfl (by first | exact Or.inl rfl | exact Or.inr (Or.inl rfl) | exact Or.inr (Or.inr rfl))) (pe_var (i := 1) rfl (by first | exact Or.inl rfl | exact Or.inr (Or.inl rfl) | exact Or.inr (Or.inr rfl)))) pss_nil)
theorem sc_law_digits : FnScope ["cell", "sizes", "row", "rest", "seed", "k", "size", "twice"] ["cell", "sizes"] (defScope s_law_digits) := ⟨rfl, rfl, rfl, by decide +kernel, rfl, by decide +kernel, by decide +kernel⟩
theorem ok_law_digits {P : Program} {w : World} {K : PySem.W.Frag} {mg : Str → Option Value} {base : Heap} (T : Txt K mg) : Keeps P w K mg base "_law_digits" 1 ["cell", "sizes"] 2 .ow m_law_digits :=
  keeps_of T.d_law_digits sc_law_digits (by decide) fun f cdv A outer s H E hr =>
    (js_cons (js_set 2 (je_lst (md := .ow) ja_nil) sc_law_digits.nd)
    (js_cons (js_set 3 (je_int_ T.z_int (ja_cons (je_var 0) ja_nil)) sc_law_digits.nd)
    (js_cons (js_if (jt_ge (je_var 3) (je_pow je_int je_int)) (js_cons (js_set 3 (je_sub (je_var 3) (je_pow je_int je_int)) sc_law_digits.nd)
    (js_cons (js_for (ji_seq (je_var 1)) (jg_name 6 sc_law_digits.nd) (jss_fgt [6] (js_cons (js_app 2 (je_mod (je_int_ T.z_int (ja_cons (je_var 3) ja_nil)) (je_var 6)))
    (js_one (js_set 3 (je_div (je_int_ T.z_int (ja_cons (je_var 3) ja_nil)) (je_var 6)) sc_law_digits.nd)))) (passes_of rfl))
    (js_one (js_retV 2)))) js_nil)
    (js_cons (js_set 4 (je_mod (je_int_ T.z_int (ja_cons (je_var 3) ja_nil)) je_int) sc_law_digits.nd)
    (js_cons (js_for (ji_range1 (ja_cons (je_len T.z_len (ja_cons (je_var 1) ja_nil)) ja_nil) T.z_range) (jg_name 5 sc_law_digits.nd) (jss_fgt [5, 7] (js_cons (js_set 4 (je_mod (je_int_ T.z_int (ja_cons (je_add (je_add (je_mulI (je_var 4) je_int) (je_mulI je_int (je_var 5))) je_int) ja_nil)) je_int) sc_law_digits.nd)
    (js_cons (js_set 7 (je_mod (je_int_ T.z_int (ja_cons (je_mulI (je_var 4) (je_add (je_div (je_var 4) je_int) je_int)) ja_nil)) je_int) sc_law_digits.nd)
    (js_one (js_app 2 (je_mod (je_div (je_var 7) je_int) (je_item (je_var 1) (je_var 5)))))))) (passes_of rfl))
    (js_one (js_retV 2)))))))
theorem sc_law_gcd : FnScope ["a", "b", "one", "two", "step", "rest"] ["a", "b"] (defScope s_law_gcd) := ⟨rfl, rfl, rfl, by decide +kernel, rfl, by decide +kernel, by decide +kernel⟩
theorem ok_law_gcd {P : Program} {w : World} {K : PySem.W.Frag} {mg : Str → Option Value} {base : Heap} (T : Txt K mg) : Keeps P w K mg base "_law_gcd" 1 ["a", "b"] 2 .sh m_law_gcd :=
  keeps_of T.d_law_gcd sc_law_gcd (by decide) fun f cdv A outer s H E hr =>
    (js_cons (js_set 2 (je_abs T.z_abs (ja_cons (je_int_ T.z_int (ja_cons (je_var 0) ja_nil)) ja_nil)) sc_law_gcd.nd)
    (js_cons (js_set 3 (je_abs T.z_abs (ja_cons (je_int_ T.z_int (ja_cons (je_var 1) ja_nil)) ja_nil)) sc_law_gcd.nd)
    (js_cons (js_for (ji_range1 (ja_cons je_int ja_nil) T.z_range) (jg_name 4 sc_law_gcd.nd) (jss_fgt [4, 5] (js_cons (js_if (jt_eq hr.u (je_var 3) je_int) (js_one js_break) js_nil)
    (js_cons (js_set 5 (je_mod (je_int_ T.z_int (ja_cons (je_var 2) ja_nil)) (je_var 3)) sc_law_gcd.nd)
    (js_cons (js_set 2 (je_var 3) sc_law_gcd.nd)
    (js_one (js_set 3 (je_var 5) sc_law_gcd.nd)))))) (passes_of rfl))
    (js_one (js_retV 2)))))
theorem sc_law_fraction : FnScope ["top", "bottom", "common"] ["top", "bottom"] (defScope s_law_fraction) := ⟨rfl, rfl, rfl, by decide +kernel, rfl, by decide +kernel, by decide +kernel⟩
theorem okr_law_fraction {P : Program} {w : World} {K : PySem.W.Frag} {mg : Str → Option Value} {base : Heap} (T : Txt K mg) : ∀ n, Keeps P w K mg base "_law_fraction" (1 + n) ["top", "bottom"] 2 .sh (r_law_fraction n)
  | 0 => keeps_er T.d_law_fraction
  | n + 1 => by
    have IH := okr_law_fraction (P := P) (w := w) (base := base) T n
    exact keeps_of T.d_law_fraction sc_law_fraction (by decide) fun f cdv A outer s H E hr =>
    (js_cons (js_if (jt_lt (je_var 1) je_int) (js_one (js_ret (je_call IH (hr.mono (Nat.le_refl _)) (takes_of rfl rfl rfl rfl) (ja_cons (je_neg (je_var 0)) (ja_cons (je_neg (je_var 1)) ja_nil))))) js_nil)
    (js_cons (js_set 2 (je_call (ok_law_gcd T) (hr.mono (Nat.le_trans (show 1 ≤ 1 by decide) (Nat.le_add_right 1 n))) (takes_of rfl rfl rfl rfl) (ja_cons (je_var 0) (ja_cons (je_var 1) ja_nil))) sc_law_fraction.nd)
    (js_one (js_ret (je_tup (ja_cons (je_div (je_var 0) (je_var 2)) (ja_cons (je_div (je_var 1) (je_var 2)) ja_nil)))))))
theorem ok_law_fraction {P : Program} {w : World} {K : PySem.W.Frag} {mg : Str → Option Value} {base : Heap} (T : Txt K mg) : Keeps P w K mg base "_law_fraction" 7 ["top", "bottom"] 2 .sh m_law_fraction := okr_law_fraction T 6
theorem sc_law_table_rows2 : FnScope ["size", "row", "rows", "u", "line", "v", "at", "top"] ["size", "row"] (defScope s_law_table_rows2) := ⟨rfl, rfl, rfl, by decide +kernel, rfl, by decide +kernel, by decide +kernel⟩
theorem ok_law_table_rows2 {P : Program} {w : World} {K : PySem.W.Frag} {mg : Str → Option Value} {base : Heap} (T : Txt K mg) : Keeps P w K mg base "_law_table_rows" 8 ["size", "row"] 2 (.tr 2 none none) m_law_table_rows2 :=
  keeps_of T.d_law_table_rows2 sc_law_table_rows2 (by decide) fun f cdv A outer s H E hr =>
    (js_cons (js_set 2 (je_lstT 1) sc_law_table_rows2.nd)
    (js_cons (js_for (ji_range1 (ja_cons (je_var 0) ja_nil) T.z_range) (jg_name 3 sc_law_table_rows2.nd) (jss_fgt [3, 4, 5, 6, 7] (js_end (m1 := [.sh, .sh, .tr 2 none none, .sh, .ow, .sh, .sh, .sh]) (m2 := [.sh, .sh, .tr 2 none none, .sh, .sh, .sh, .sh, .sh]) (js_cons (js_set 4 (je_lst (md := .ow) ja_nil) sc_law_table_rows2.nd)
    (js_cons (js_for (ji_range1 (ja_cons (je_var 0) ja_nil) T.z_range) (jg_name 5 sc_law_table_rows2.nd) (jss_fgt [5, 6, 7] (js_cons (js_set 6 (je_add je_int (je_mulI je_int (je_add (je_mulI (je_var 0) (je_var 3)) (je_var 5)))) sc_law_table_rows2.nd)
    (js_cons (js_set 7 (je_item (je_share (je_lst (md := .ow) (ja_cons (je_sub (je_item (je_var 1) (je_var 6)) je_int) (ja_cons (je_mod (je_item (je_var 1) (je_var 6)) je_int) (ja_cons (je_mod (je_item (je_var 1) (je_var 6)) je_int) (ja_cons (je_sub (je_item (je_var 1) (je_var 6)) je_int) (ja_cons (je_div (je_item (je_var 1) (je_var 6)) je_int) (ja_cons (je_sub (je_item (je_var 1) (je_var 6)) je_int) (ja_cons (je_item (je_var 1) (je_var 6)) ja_nil))))))))) (je_item (je_var 1) je_int)) sc_law_table_rows2.nd)
    (js_one (js_app 4 (je_call (ok_law_fraction T) (hr.mono (by decide)) (takes_of rfl rfl rfl rfl) (ja_cons (je_var 7) (ja_cons (je_item (je_share (je_lst (md := .ow) (ja_cons je_int (ja_cons je_int (ja_cons je_int (ja_cons je_int (ja_cons je_int (ja_cons je_int (ja_cons je_int (ja_cons je_int (ja_cons je_int ja_nil))))))))))) (je_item (je_var 1) (je_add (je_var 6) je_int))) ja_nil)))))))) (passes_of rfl))
    (js_one (js_appMv 0 2 4)))))) (passes_of rfl))
    (js_one (js_retV 2))))
theorem sc_law_cell : FnScope ["script", "k", "seed", "cell"] ["script", "k"] (defScope s_law_cell) := ⟨rfl, rfl, rfl, by decide +kernel, rfl, by decide +kernel, by decide +kernel⟩
theorem ok_law_cell {P : Program} {w : World} {K : PySem.W.Frag} {mg : Str → Option Value} {base : Heap} (T : Txt K mg) : Keeps P w K mg base "_law_cell" 1 ["script", "k"] 2 .sh m_law_cell :=
  keeps_of T.d_law_cell sc_law_cell (by decide) fun f cdv A outer s H E hr =>
    (js_cons (js_if (jt_lt (je_var 1) (je_len T.z_len (ja_cons (je_var 0) ja_nil))) (js_one (js_ret (je_item (je_var 0) (je_var 1)))) js_nil)
    (js_cons (js_set 2 je_int sc_law_cell.nd)
    (js_cons (js_for (ji_seq (je_var 0)) (jg_name 3 sc_law_cell.nd) (jss_fgt [3] (js_one (js_set 2 (je_mod (je_int_ T.z_int (ja_cons (je_add (je_mulI (je_var 2) je_int) (je_mod (je_int_ T.z_int (ja_cons (je_var 3) ja_nil)) je_int)) ja_nil)) je_int) sc_law_cell.nd))) (passes_of rfl))
    (js_one (js_ret (je_mod (je_int_ T.z_int (ja_cons (je_mulI (je_mulI (je_add (je_var 2) je_int) (je_add (je_var 1) je_int)) je_int) ja_nil)) je_int))))))
theorem sc_law_added : FnScope ["one", "two"] ["one", "two"] (defScope s_law_added) := ⟨rfl, rfl, rfl, by decide +kernel, rfl, by decide +kernel, by decide +kernel⟩
theorem ok_law_added {P : Program} {w : World} {K : PySem.W.Frag} {mg : Str → Option Value} {base : Heap} (T : Txt K mg) : Keeps P w K mg base "_law_added" 8 ["one", "two"] 2 .sh m_law_added :=
  keeps_of T.d_law_added sc_law_added (by decide) fun f cdv A outer s H E hr =>
    (js_one (js_ret (je_call (ok_law_fraction T) (hr.mono (by decide)) (takes_of rfl rfl rfl rfl) (ja_cons (je_add (je_mulI (je_item (je_var 0) je_int) (je_item (je_var 1) je_int)) (je_mulI (je_item (je_var 1) je_int) (je_item (je_var 0) je_int))) (ja_cons (je_mulI (je_item (je_var 0) je_int) (je_item (je_var 1) je_int)) ja_nil)))))
theorem sc_law_split_rows2 : FnScope ["size", "row", "rows", "u", "line", "v", "one", "at", "two"] ["size", "row"] (defScope s_law_split_rows2) := ⟨rfl, rfl, rfl, by decide +kernel, rfl, by decide +kernel, by decide +kernel⟩
theorem ok_law_split_rows2 {P : Program} {w : World} {K : PySem.W.Frag} {mg : Str → Option Value} {base : Heap} (T : Txt K mg) : Keeps P w K mg base "_law_split_rows" 9 ["size", "row"] 2 (.tr 2 none none) m_law_split_rows2 :=
  keeps_of T.d_law_split_rows2 sc_law_split_rows2 (by decide) fun f cdv A outer s H E hr =>
    (js_cons (js_set 2 (je_lstT 1) sc_law_split_rows2.nd)
    (js_cons (js_for (ji_range1 (ja_cons (je_var 0) ja_nil) T.z_range) (jg_name 3 sc_law_split_rows2.nd) (jss_fgt [3, 4, 5, 6, 7, 8] (js_end (m1 := [.sh, .sh, .tr 2 none none, .sh, .ow, .sh, .sh, .sh, .sh]) (m2 := [.sh, .sh, .tr 2 none none, .sh, .sh, .sh, .sh, .sh, .sh]) (js_cons (js_set 4 (je_lst (md := .ow) ja_nil) sc_law_split_rows2.nd)
    (js_cons (js_for (ji_range1 (ja_cons (je_var 0) ja_nil) T.z_range) (jg_name 5 sc_law_split_rows2.nd) (jss_fgt [5, 6, 7, 8] (js_cons (js_set 6 (je_call (ok_law_fraction T) (hr.mono (by decide)) (takes_of rfl rfl rfl rfl) (ja_cons (je_sub (je_item (je_var 1) (je_add je_int (je_mulI je_int (je_var 3)))) je_int) (ja_cons (je_item (je_share (je_lst (md := .ow) (ja_cons je_int (ja_cons je_int (ja_cons je_int (ja_cons je_int (ja_cons je_int (ja_cons je_int (ja_cons je_int (ja_cons je_int (ja_cons je_int ja_nil))))))))))) (je_item (je_var 1) (je_add je_int (je_mulI je_int (je_var 3))))) ja_nil))) sc_law_split_rows2.nd)
    (js_cons (js_set 7 (je_add je_int (je_mulI je_int (je_add (je_mulI (je_var 0) (je_sub (je_var 0) je_int)) (je_var 5)))) sc_law_split_rows2.nd)
    (js_cons (js_set 8 (je_call (ok_law_fraction T) (hr.mono (by decide)) (takes_of rfl rfl rfl rfl) (ja_cons (je_sub (je_item (je_var 1) (je_var 7)) je_int) (ja_cons (je_item (je_share (je_lst (md := .ow) (ja_cons je_int (ja_cons je_int (ja_cons je_int (ja_cons je_int (ja_cons je_int (ja_cons je_int (ja_cons je_int (ja_cons je_int (ja_cons je_int ja_nil))))))))))) (je_item (je_var 1) (je_add (je_var 7) je_int))) ja_nil))) sc_law_split_rows2.nd)
    (js_one (js_app 4 (je_call (ok_law_added T) (hr.mono (by decide)) (takes_of rfl rfl rfl rfl) (ja_cons (je_var 6) (ja_cons (je_var 8) ja_nil))))))))) (passes_of rfl))
    (js_one (js_appMv 0 2 4)))))) (passes_of rfl))
    (js_one (js_retV 2))))
theorem sc_law_drawn_rows2 : FnScope ["script", "kind", "size", "row", "rows", "line", "u", "v"] ["script"] (defScope s_law_drawn_rows2) := ⟨rfl, rfl, rfl, by decide +kernel, rfl, by decide +kernel, by decide +kernel⟩
theorem ok_law_drawn_rows2 {P : Program} {w : World} {K : PySem.W.Frag} {mg : Str → Option Value} {base : Heap} (T : Txt K mg) : Keeps P w K mg base "_law_drawn_rows" 10 ["script"] 1 .sh m_law_drawn_rows2 :=
  keeps_of T.d_law_drawn_rows2 sc_law_drawn_rows2 (by decide) fun f cdv A outer s H E hr =>
    (js_cons (js_set 1 (je_call (ok_law_digits T) (hr.mono (by decide)) (takes_of rfl rfl rfl rfl) (ja_cons (je_call (ok_law_cell T) (hr.mono (by decide)) (takes_of rfl rfl rfl rfl) (ja_cons (je_var 0) (ja_cons je_int ja_nil))) (ja_cons (je_share (je_lst (md := .ow) (ja_cons je_int (ja_cons je_int (ja_cons je_int (ja_cons je_int (ja_cons je_int (ja_cons je_int ja_nil)))))))) ja_nil))) sc_law_drawn_rows2.nd)
    (js_cons (js_set 2 (je_add je_int (je_itemO 1 je_int)) sc_law_drawn_rows2.nd)
    (js_cons (js_set 3 (je_call (ok_law_digits T) (hr.mono (by decide)) (takes_of rfl rfl rfl rfl) (ja_cons (je_call (ok_law_cell T) (hr.mono (by decide)) (takes_of rfl rfl rfl rfl) (ja_cons (je_var 0) (ja_cons je_int ja_nil))) (ja_cons (je_share (je_addL (je_share (je_lst (md := .ow) (ja_cons je_int ja_nil))) (je_share (je_rep (je_share (je_lst (md := .ow) (ja_cons je_int (ja_cons je_int ja_nil)))) je_int)))) ja_nil))) sc_law_drawn_rows2.nd)
    (js_cons (js_weak1 (m := [.sh, .ow, .sh, .ow, .sh, .sh, .sh, .sh]) (m1 := [.sh, .ow, .sh, .sh, .sh, .sh, .sh, .sh]) (js_set 4 (je_call (ok_law_table_rows2 T) (hr.mono (by decide)) (takes_of rfl rfl rfl rfl) (ja_cons (je_var 2) (ja_cons (je_var 3) ja_nil))) sc_law_drawn_rows2.nd))
    (js_cons (js_fgt [] (js_if (jt_ge (je_itemO 1 je_int) je_int) (js_one (js_set 4 (je_call (ok_law_split_rows2 T) (hr.mono (by decide)) (takes_of rfl rfl rfl rfl) (ja_cons (je_var 2) (ja_cons (je_var 3) ja_nil))) sc_law_drawn_rows2.nd)) js_nil))
    (js_cons (js_fgt [] (js_if (jt_eq hr.u (je_itemO 1 je_int) je_int) (js_cons (js_set 2 (je_add je_int (je_itemO 1 je_int)) sc_law_drawn_rows2.nd)
    (js_one (js_setLcT 1 4 sc_law_drawn_rows2 [("u", 6)] (ji_range1 (ja_cons (je_var 2) ja_nil) T.z_range) (fun _ _ _ _ _ => (jg_name 6 sc_law_drawn_rows2.nd)) (fun _ _ _ _ _ => jts_nil) (fun _ _ _ _ _ => (je_lcB sc_law_drawn_rows2 [("v", 7)] (ji_range1 (ja_cons (je_var 2) ja_nil) T.z_range) (fun _ _ _ _ _ => (jg_name 7 sc_law_drawn_rows2.nd)) (fun _ _ _ _ _ => jts_nil) (fun _ _ _ _ _ => (je_tup (ja_cons (je_sub (je_add (je_item (je_var 3) (je_add je_int (je_var 6))) (je_item (je_var 3) (je_add (je_add je_int (je_var 2)) (je_var 7)))) je_int) (ja_cons je_int ja_nil))))))))) js_nil))
    (js_cons (js_fgt [5] (js_if (JW.jt (jw_or (jt_eq hr.u (je_itemO 1 je_int) je_int) (jw_or1 (JW.jt (jw_and (jt_eq hr.u (je_itemO 1 je_int) je_int) (jw_and1 (jt_eq hr.u (je_itemO 1 je_int) je_int))))))) (jss_bor 0 4 5 (je_mod (je_itemO 1 je_int) (je_var 2)) (fun k1 q1 => (js_cons (js_setix 5 (je_call (ok_law_added T) (hr.mono (by decide)) (takes_of rfl rfl rfl rfl) (ja_cons (je_itemO 5 (je_mod (je_itemO 1 je_int) (je_var 2))) (ja_cons (je_tup (ja_cons je_int (ja_cons (je_add je_int (je_mod (je_itemO 1 je_int) je_int)) ja_nil))) ja_nil))) (je_mod (je_itemO 1 je_int) (je_var 2)))
    (jss_give (m0 := [.sh, .ow, .sh, .sh, .tr 2 none none, .sh, .sh, .sh]) 0 4 5 k1 q1 js_nil))) (hNd := sc_law_drawn_rows2.nd)) js_nil))
    (js_one (js_weak1 (m := [.sh, .ow, .sh, .sh, .tr 2 none none, .sh, .sh, .sh]) (m1 := [.sh, .ow, .sh, .sh, .sh, .sh, .sh, .sh]) (js_retV 4))))))))))
theorem sc_is_number : FnScope ["value"] ["value"] (defScope s_is_number) := ⟨rfl, rfl, rfl, by decide +kernel, rfl, by decide +kernel, by decide +kernel⟩
theorem ok_is_number {P : Program} {w : World} {K : PySem.W.Frag} {mg : Str → Option Value} {base : Heap} (T : Txt K mg) : Keeps P w K mg base "is_number" 1 ["value"] 1 .sh m_is_number :=
  keeps_of T.d_is_number sc_is_number (by decide) fun f cdv A outer s H E hr =>
    (js_one (js_ret (je_and (je_isi "int" T.z_isinstance T.z_int (je_var 0)) (je_last (je_not (je_isi "bool" T.z_isinstance T.z_bool (je_var 0)))))))
theorem sc_as_fraction : FnScope ["value"] ["value"] (defScope s_as_fraction) := ⟨rfl, rfl, rfl, by decide +kernel, rfl, by decide +kernel, by decide +kernel⟩
theorem ok_as_fraction {P : Program} {w : World} {K : PySem.W.Frag} {mg : Str → Option Value} {base : Heap} (T : Txt K mg) : Keeps P w K mg base "as_fraction" 2 ["value"] 1 .sh m_as_fraction :=
  keeps_of T.d_as_fraction sc_as_fraction (by decide) fun f cdv A outer s H E hr =>
    (js_cons (js_if (jt_tr (je_call (ok_is_number T) (hr.mono (by decide)) (takes_of rfl rfl rfl rfl) (ja_cons (je_var 0) ja_nil))) (js_one (js_ret (je_tup (ja_cons (je_var 0) (ja_cons je_int ja_nil))))) js_nil)
    (js_one (js_retV 0)))
theorem sc_checked_rows : FnScope ["rows", "index", "row", "item"] ["rows"] (defScope s_checked_rows) := ⟨rfl, rfl, rfl, by decide +kernel, rfl, by decide +kernel, by decide +kernel⟩
theorem ok_checked_rows {P : Program} {w : World} {K : PySem.W.Frag} {mg : Str → Option Value} {base : Heap} (T : Txt K mg) : Keeps P w K mg base "checked_rows" 3 ["rows"] 1 .sh m_checked_rows :=
  keeps_of T.d_checked_rows sc_checked_rows (by decide) fun f cdv A outer s H E hr =>
    (js_cons (js_for (ji_enum (ja_cons (je_var 0) ja_nil) T.z_enumerate) (jg_tup2 (jg_name 1 sc_checked_rows.nd) (jg_name 2 sc_checked_rows.nd)) (jss_fgt [1, 2] (js_one (js_if (jt_ne hr.u (je_len T.z_len (ja_cons (je_var 2) ja_nil)) (je_len T.z_len (ja_cons (je_var 0) ja_nil))) (js_one (js_raiseN (oe_BadTable T) (hr.mono (by decide)) (takes_of rfl rfl rfl rfl) (ja_cons (je_var 1) ja_nil))) js_nil))) (passes_of rfl))
    (js_one (js_ret (je_tuple T.z_tuple (ja_cons (je_share (je_lc sc_checked_rows [("row", 2)] (ji_seq (je_var 0)) (fun _ _ _ _ _ => (jg_name 2 sc_checked_rows.nd)) (fun _ _ _ _ _ => jts_nil) (fun _ _ _ _ _ => (je_tuple T.z_tuple (ja_cons (je_share (je_lcB sc_checked_rows [("item", 3)] (ji_seq (je_var 2)) (fun _ _ _ _ _ => (jg_name 3 sc_checked_rows.nd)) (fun _ _ _ _ _ => jts_nil) (fun _ _ _ _ _ => (je_call (ok_as_fraction T) (hr.mono (by decide)) takesF (ja_cons (je_var 3) ja_nil))))) ja_nil))))) ja_nil)))))
theorem sc_frozen : FnScope ["value", "item"] ["value"] (defScope s_frozen) := ⟨rfl, rfl, rfl, by decide +kernel, rfl, by decide +kernel, by decide +kernel⟩
theorem okr_frozen {P : Program} {w : World} {K : PySem.W.Frag} {mg : Str → Option Value} {base : Heap} (T : Txt K mg) : ∀ n, Keeps P w K mg base "frozen" (0 + n) ["value"] 1 .sh (r_frozen n)
  | 0 => keeps_er T.d_frozen
  | n + 1 => by
    have IH := okr_frozen (P := P) (w := w) (base := base) T n
    exact keeps_of T.d_frozen sc_frozen (by decide) fun f cdv A outer s H E hr =>
    (js_cons (js_if (jt_tr (je_isi2 "list" "tuple" T.z_isinstance T.z_list T.z_tuple (je_var 0))) (js_one (js_ret (je_tuple T.z_tuple (ja_cons (je_share (je_lc sc_frozen [("item", 1)] (ji_seq (je_var 0)) (fun _ _ _ _ _ => (jg_name 1 sc_frozen.nd)) (fun _ _ _ _ _ => jts_nil) (fun _ _ _ _ _ => (je_call IH (hr.mono (Nat.le_refl _)) takesF (ja_cons (je_var 1) ja_nil))))) ja_nil)))) js_nil)
    (js_one (js_retV 0)))
theorem ok_frozen {P : Program} {w : World} {K : PySem.W.Frag} {mg : Str → Option Value} {base : Heap} (T : Txt K mg) : Keeps P w K mg base "frozen" 6 ["value"] 1 .sh m_frozen := okr_frozen T 6
theorem sc_Table_init : FnScope ["self", "rows"] ["self", "rows"] (defScope s_Table_init) := ⟨rfl, rfl, rfl, by decide +kernel, rfl, by decide +kernel, by decide +kernel⟩
theorem ok_Table_init {P : Program} {w : World} {K : PySem.W.Frag} {mg : Str → Option Value} {base : Heap} (T : Txt K mg) : KeepsI P w K mg base "Table" 7 ["self", "rows"] 1 m_Table_init :=
  keepsI_of T.d_Table_init sc_Table_init (by decide) rfl fun f p cdv A outer s H E hr =>
    (js_cons (js_fld "Table" 0 T.f_Table_rows (je_call (ok_checked_rows T) (hr.mono (by decide)) (takes_of rfl rfl rfl rfl) (ja_cons (je_call (ok_frozen T) (hr.mono (by decide)) (takes_of rfl rfl rfl rfl) (ja_cons (je_var 1) ja_nil)) ja_nil)))
    (js_one (js_fld "Table" 0 T.f_Table_size (je_len T.z_len (ja_cons (je_fldO "Table" 0 T.f_Table_rows) ja_nil)))))
theorem sc_checked_lot : FnScope ["lot", "size", "weight"] ["lot", "size"] (defScope s_checked_lot) := ⟨rfl, rfl, rfl, by decide +kernel, rfl, by decide +kernel, by decide +kernel⟩
theorem ok_checked_lot {P : Program} {w : World} {K : PySem.W.Frag} {mg : Str → Option Value} {base : Heap} (T : Txt K mg) : Keeps P w K mg base "checked_lot" 7 ["lot", "size"] 2 .sh m_checked_lot :=
  keeps_of T.d_checked_lot sc_checked_lot (by decide) fun f cdv A outer s H E hr =>
    (js_cons (js_set 0 (je_call (ok_frozen T) (hr.mono (by decide)) (takes_of rfl rfl rfl rfl) (ja_cons (je_var 0) ja_nil)) sc_checked_lot.nd)
    (js_cons (js_if (JW.jt (jw_or (jt_ne hr.u (je_len T.z_len (ja_cons (je_var 0) ja_nil)) (je_var 1)) (jw_or (jt_not (jt_tr (je_all T.z_all (ja_cons (je_share (je_lc sc_checked_lot [("weight", 2)] (ji_seq (je_var 0)) (fun _ _ _ _ _ => (jg_name 2 sc_checked_lot.nd)) (fun _ _ _ _ _ => jts_nil) (fun _ _ _ _ _ => (je_chain op_le op_le opd_P opd_P je_int (je_var 2) (je_globI T.c_MOST_WEIGHT))))) ja_nil)))) (jw_or1 (jt_eq hr.u (je_sumT T.z_sum (ja_cons (je_var 0) ja_nil)) je_int))))) (js_one (js_raise0 T.e0_BadLot (takes_of rfl rfl rfl rfl))) js_nil)
    (js_one (js_retV 0))))
theorem sc_ratio : FnScope ["top", "bottom", "common"] ["top", "bottom"] (defScope s_ratio) := ⟨rfl, rfl, rfl, by decide +kernel, rfl, by decide +kernel, by decide +kernel⟩
theorem ok_ratio {P : Program} {w : World} {K : PySem.W.Frag} {mg : Str → Option Value} {base : Heap} (T : Txt K mg) : Keeps P w K mg base "ratio" 1 ["top", "bottom"] 2 .sh m_ratio :=
  keeps_of T.d_ratio sc_ratio (by decide) fun f cdv A outer s H E hr =>
    (js_cons (js_if (jt_eq hr.u (je_var 1) je_int) (js_one (js_raise0 T.e0_ZeroBottom (takes_of rfl rfl rfl rfl))) js_nil)
    (js_cons (js_set 2 (je_gcd T.g_gcd (ja_cons (je_var 0) (ja_cons (je_var 1) ja_nil))) sc_ratio.nd)
    (js_cons (js_fgt [] (js_if (jt_lt (je_var 1) je_int) (js_one (js_set 2 (je_neg (je_var 2)) sc_ratio.nd)) js_nil))
    (js_one (js_ret (je_tup (ja_cons (je_div (je_var 0) (je_var 2)) (ja_cons (je_div (je_var 1) (je_var 2)) ja_nil))))))))
theorem sc_added : FnScope ["one", "two"] ["one", "two"] (defScope s_added) := ⟨rfl, rfl, rfl, by decide +kernel, rfl, by decide +kernel, by decide +kernel⟩
theorem ok_added {P : Program} {w : World} {K : PySem.W.Frag} {mg : Str → Option Value} {base : Heap} (T : Txt K mg) : Keeps P w K mg base "added" 2 ["one", "two"] 2 .sh m_added :=
  keeps_of T.d_added sc_added (by decide) fun f cdv A outer s H E hr =>
    (js_one (js_ret (je_call (ok_ratio T) (hr.mono (by decide)) (takes_of rfl rfl rfl rfl) (ja_cons (je_add (je_mulI (je_item (je_var 0) je_int) (je_item (je_var 1) je_int)) (je_mulI (je_item (je_var 1) je_int) (je_item (je_var 0) je_int))) (ja_cons (je_mulI (je_item (je_var 0) je_int) (je_item (je_var 1) je_int)) ja_nil)))))
theorem sc_fraction_sum : FnScope ["values", "total", "value"] ["values"] (defScope s_fraction_sum) := ⟨rfl, rfl, rfl, by decide +kernel, rfl, by decide +kernel, by decide +kernel⟩
theorem ok_fraction_sum {P : Program} {w : World} {K : PySem.W.Frag} {mg : Str → Option Value} {base : Heap} (T : Txt K mg) : Keeps P w K mg base "fraction_sum" 3 ["values"] 1 .sh m_fraction_sum :=
  keeps_of T.d_fraction_sum sc_fraction_sum (by decide) fun f cdv A outer s H E hr =>
    (js_cons (js_set 1 (je_tup (ja_cons je_int (ja_cons je_int ja_nil))) sc_fraction_sum.nd)
    (js_cons (js_for (ji_seq (je_var 0)) (jg_name 2 sc_fraction_sum.nd) (jss_fgt [2] (js_one (js_set 1 (je_call (ok_added T) (hr.mono (by decide)) (takes_of rfl rfl rfl rfl) (ja_cons (je_var 1) (ja_cons (je_var 2) ja_nil))) sc_fraction_sum.nd))) (passes_of rfl))
    (js_one (js_retV 1))))
theorem sc_weighed : FnScope ["items", "lot", "total", "item", "weight"] ["items", "lot"] (defScope s_weighed) := ⟨rfl, rfl, rfl, by decide +kernel, rfl, by decide +kernel, by decide +kernel⟩
theorem ok_weighed {P : Program} {w : World} {K : PySem.W.Frag} {mg : Str → Option Value} {base : Heap} (T : Txt K mg) : Keeps P w K mg base "weighed" 4 ["items", "lot"] 2 .sh m_weighed :=
  keeps_of T.d_weighed sc_weighed (by decide) fun f cdv A outer s H E hr =>
    (js_cons (js_set 2 (je_sumT T.z_sum (ja_cons (je_var 1) ja_nil)) sc_weighed.nd)
    (js_one (js_ret (je_call (ok_fraction_sum T) (hr.mono (by decide)) (takes_of rfl rfl rfl rfl) (ja_cons (je_share (je_lc sc_weighed [("item", 3), ("weight", 4)] (ji_zip3 (ja_cons (je_var 0) (ja_cons (je_var 1) ja_nil)) T.z_zip) (fun _ _ _ _ _ => (jg_tup2 (jg_name 3 sc_weighed.nd) (jg_name 4 sc_weighed.nd))) (fun _ _ _ _ _ => jts_nil) (fun _ _ _ _ _ => (je_call (ok_ratio T) (hr.mono (by decide)) takesF (ja_cons (je_mulI (je_item (je_var 3) je_int) (je_var 4)) (ja_cons (je_mulI (je_item (je_var 3) je_int) (je_var 2)) ja_nil)))))) ja_nil)))))
theorem sc_turned_rows : FnScope ["rows", "v", "u"] ["rows"] (defScope s_turned_rows) := ⟨rfl, rfl, rfl, by decide +kernel, rfl, by decide +kernel, by decide +kernel⟩
theorem ok_turned_rows {P : Program} {w : World} {K : PySem.W.Frag} {mg : Str → Option Value} {base : Heap} (T : Txt K mg) : Keeps P w K mg base "turned_rows" 1 ["rows"] 1 .sh m_turned_rows :=
  keeps_of T.d_turned_rows sc_turned_rows (by decide) fun f cdv A outer s H E hr =>
    (js_one (js_ret (je_tuple T.z_tuple (ja_cons (je_share (je_lc sc_turned_rows [("v", 1)] (ji_range1 (ja_cons (je_len T.z_len (ja_cons (je_var 0) ja_nil)) ja_nil) T.z_range) (fun _ _ _ _ _ => (jg_name 1 sc_turned_rows.nd)) (fun _ _ _ _ _ => jts_nil) (fun _ _ _ _ _ => (je_tuple T.z_tuple (ja_cons (je_share (je_lcB sc_turned_rows [("u", 2)] (ji_range1 (ja_cons (je_len T.z_len (ja_cons (je_var 0) ja_nil)) ja_nil) T.z_range) (fun _ _ _ _ _ => (jg_name 2 sc_turned_rows.nd)) (fun _ _ _ _ _ => jts_nil) (fun _ _ _ _ _ => (je_item (je_item (je_var 0) (je_var 2)) (je_var 1))))) ja_nil))))) ja_nil))))
theorem sc_Table_turned : FnScope ["self"] ["self"] (defScope s_Table_turned) := ⟨rfl, rfl, rfl, by decide +kernel, rfl, by decide +kernel, by decide +kernel⟩
theorem ok_Table_turned {P : Program} {w : World} {K : PySem.W.Frag} {mg : Str → Option Value} {base : Heap} (T : Txt K mg) : KeepsM P w K mg base "Table" "turned" 9 ["self"] 1 .sh m_Table_turned :=
  keepsM_of T.d_Table_turned sc_Table_turned (by decide) fun f cdv A outer s H E hr =>
    (js_one (js_ret (je_make (ok_Table_init T) (hr.mono (by decide)) (takes_of rfl rfl rfl rfl) (ja_cons (je_call (ok_turned_rows T) (hr.mono (by decide)) (takes_of rfl rfl rfl rfl) (ja_cons (je_fld "Table" T.f_Table_rows (je_var 0)) ja_nil)) ja_nil))))
theorem sc_halfway_table : FnScope ["table", "lot", "first", "second", "row", "column", "one", "two"] ["table", "lot"] (defScope s_halfway_table) := ⟨rfl, rfl, rfl, by decide +kernel, rfl, by decide +kernel, by decide +kernel⟩
theorem ok_halfway_table {P : Program} {w : World} {K : PySem.W.Frag} {mg : Str → Option Value} {base : Heap} (T : Txt K mg) : Keeps P w K mg base "halfway_table" 10 ["table", "lot"] 2 .sh m_halfway_table :=
  keeps_of T.d_halfway_table sc_halfway_table (by decide) fun f cdv A outer s H E hr =>
    (js_cons (js_set 1 (je_call (ok_checked_lot T) (hr.mono (by decide)) (takes_of rfl rfl rfl rfl) (ja_cons (je_call (ok_frozen T) (hr.mono (by decide)) (takes_of rfl rfl rfl rfl) (ja_cons (je_var 1) ja_nil)) (ja_cons (je_fld "Table" T.f_Table_size (je_var 0)) ja_nil))) sc_halfway_table.nd)
    (js_cons (js_setLc 2 sc_halfway_table [("row", 4)] (ji_seq (je_fld "Table" T.f_Table_rows (je_var 0))) (fun _ _ _ _ _ => (jg_name 4 sc_halfway_table.nd)) (fun _ _ _ _ _ => jts_nil) (fun _ _ _ _ _ => (je_call (ok_weighed T) (hr.mono (by decide)) takesF (ja_cons (je_var 4) (ja_cons (je_var 1) ja_nil)))))
    (js_cons (js_set 3 (je_lc sc_halfway_table [("column", 5)] (ji_seq (je_fld "Table" T.f_Table_rows (je_meth0 (ok_Table_turned T) (hr.mono (by decide)) (takes_of rfl rfl rfl rfl) (je_var 0)))) (fun _ _ _ _ _ => (jg_name 5 sc_halfway_table.nd)) (fun _ _ _ _ _ => jts_nil) (fun _ _ _ _ _ => (je_call (ok_weighed T) (hr.mono (by decide)) takesF (ja_cons (je_var 5) (ja_cons (je_var 1) ja_nil))))) sc_halfway_table.nd)
    (js_one (js_weak1 (m := [.sh, .sh, .ow, .ow, .sh, .sh, .sh, .sh]) (m1 := [.sh, .sh, .sh, .ow, .sh, .sh, .sh, .sh]) (js_weak1 (m := [.sh, .sh, .sh, .ow, .sh, .sh, .sh, .sh]) (m1 := [.sh, .sh, .sh, .sh, .sh, .sh, .sh, .sh]) (js_ret (je_make (ok_Table_init T) (hr.mono (by decide)) (takes_of rfl rfl rfl rfl) (ja_cons (je_share (je_lc sc_halfway_table [("one", 6)] (ji_seq (je_var 2)) (fun _ _ _ _ _ => (jg_name 6 sc_halfway_table.nd)) (fun _ _ _ _ _ => jts_nil) (fun _ _ _ _ _ => (je_share (je_lcB sc_halfway_table [("two", 7)] (ji_seq (je_var 3)) (fun _ _ _ _ _ => (jg_name 7 sc_halfway_table.nd)) (fun _ _ _ _ _ => jts_nil) (fun _ _ _ _ _ => (je_call (ok_added T) (hr.mono (by decide)) takesF (ja_cons (je_var 6) (ja_cons (je_var 7) ja_nil))))))))) ja_nil)))))))))
theorem sc_law_total : FnScope ["rows", "total", "line", "item"] ["rows"] (defScope s_law_total) := ⟨rfl, rfl, rfl, by decide +kernel, rfl, by decide +kernel, by decide +kernel⟩
theorem ok_law_total {P : Program} {w : World} {K : PySem.W.Frag} {mg : Str → Option Value} {base : Heap} (T : Txt K mg) : Keeps P w K mg base "_law_total" 9 ["rows"] 1 .sh m_law_total :=
  keeps_of T.d_law_total sc_law_total (by decide) fun f cdv A outer s H E hr =>
    (js_cons (js_set 1 (je_tup (ja_cons je_int (ja_cons je_int ja_nil))) sc_law_total.nd)
    (js_cons (js_for (ji_seq (je_var 0)) (jg_name 2 sc_law_total.nd) (jss_fgt [2, 3] (js_one (js_for (ji_seq (je_var 2)) (jg_name 3 sc_law_total.nd) (jss_fgt [3] (js_one (js_set 1 (je_call (ok_law_added T) (hr.mono (by decide)) (takes_of rfl rfl rfl rfl) (ja_cons (je_var 1) (ja_cons (je_var 3) ja_nil))) sc_law_total.nd))) (passes_of rfl)))) (passes_of rfl))
    (js_one (js_retV 1))))
theorem sc_law_any_lot : FnScope ["size", "row", "lot", "w"] ["size", "row"] (defScope s_law_any_lot) := ⟨rfl, rfl, rfl, by decide +kernel, rfl, by decide +kernel, by decide +kernel⟩
theorem ok_law_any_lot {P : Program} {w : World} {K : PySem.W.Frag} {mg : Str → Option Value} {base : Heap} (T : Txt K mg) : Keeps P w K mg base "_law_any_lot" 1 ["size", "row"] 2 .ow m_law_any_lot :=
  keeps_of T.d_law_any_lot sc_law_any_lot (by decide) fun f cdv A outer s H E hr =>
    (js_cons (js_setLc 2 sc_law_any_lot [("w", 3)] (ji_range1 (ja_cons (je_var 0) ja_nil) T.z_range) (fun _ _ _ _ _ => (jg_name 3 sc_law_any_lot.nd)) (fun _ _ _ _ _ => jts_nil) (fun _ _ _ _ _ => je_int))
    (js_cons (js_fgt [] (js_if (jt_eq hr.u (je_item (je_var 1) je_int) je_int) (js_one (js_setLc 2 sc_law_any_lot [("w", 3)] (ji_range1 (ja_cons (je_var 0) ja_nil) T.z_range) (fun _ _ _ _ _ => (jg_name 3 sc_law_any_lot.nd)) (fun _ _ _ _ _ => jts_nil) (fun _ _ _ _ _ => (je_mod (je_int_ T.z_int (ja_cons (je_item (je_var 1) (je_add je_int (je_var 3))) ja_nil)) je_int)))) js_nil))
    (js_cons (js_fgt [] (js_if (jt_eq hr.u (je_item (je_var 1) je_int) je_int) (js_one (js_setLc 2 sc_law_any_lot [("w", 3)] (ji_range1 (ja_cons (je_var 0) ja_nil) T.z_range) (fun _ _ _ _ _ => (jg_name 3 sc_law_any_lot.nd)) (fun _ _ _ _ _ => jts_nil) (fun _ _ _ _ _ => (je_item (je_var 1) (je_add je_int (je_var 3)))))) js_nil))
    (js_cons (js_fgt [] (js_if (jt_eq hr.u (je_borrow (m1 := [.sh, .sh, .sh, .sh]) (je_sum T.z_sum (ja_cons (je_var 2) ja_nil))) je_int) (js_one (js_setix 2 je_int (je_sub (je_var 0) je_int))) js_nil))
    (js_one (js_retV 2))))))
theorem sc_law_timed : FnScope ["one", "two"] ["one", "two"] (defScope s_law_timed) := ⟨rfl, rfl, rfl, by decide +kernel, rfl, by decide +kernel, by decide +kernel⟩
theorem ok_law_timed {P : Program} {w : World} {K : PySem.W.Frag} {mg : Str → Option Value} {base : Heap} (T : Txt K mg) : Keeps P w K mg base "_law_timed" 8 ["one", "two"] 2 .sh m_law_timed :=
  keeps_of T.d_law_timed sc_law_timed (by decide) fun f cdv A outer s H E hr =>
    (js_one (js_ret (je_call (ok_law_fraction T) (hr.mono (by decide)) (takes_of rfl rfl rfl rfl) (ja_cons (je_mulI (je_item (je_var 0) je_int) (je_item (je_var 1) je_int)) (ja_cons (je_mulI (je_item (je_var 0) je_int) (je_item (je_var 1) je_int)) ja_nil)))))
theorem sc_law_weighed : FnScope ["items", "lot", "total", "w"] ["items", "lot"] (defScope s_law_weighed) := ⟨rfl, rfl, rfl, by decide +kernel, rfl, by decide +kernel, by decide +kernel⟩
theorem ok_law_weighed {P : Program} {w : World} {K : PySem.W.Frag} {mg : Str → Option Value} {base : Heap} (T : Txt K mg) : Keeps P w K mg base "_law_weighed" 9 ["items", "lot"] 2 .sh m_law_weighed :=
  keeps_of T.d_law_weighed sc_law_weighed (by decide) fun f cdv A outer s H E hr =>
    (js_cons (js_set 2 (je_tup (ja_cons je_int (ja_cons je_int ja_nil))) sc_law_weighed.nd)
    (js_cons (js_for (ji_range1 (ja_cons (je_len T.z_len (ja_cons (je_var 1) ja_nil)) ja_nil) T.z_range) (jg_name 3 sc_law_weighed.nd) (jss_fgt [3] (js_one (js_set 2 (je_call (ok_law_added T) (hr.mono (by decide)) (takes_of rfl rfl rfl rfl) (ja_cons (je_var 2) (ja_cons (je_call (ok_law_timed T) (hr.mono (by decide)) (takes_of rfl rfl rfl rfl) (ja_cons (je_item (je_var 0) (je_var 3)) (ja_cons (je_tup (ja_cons (je_item (je_var 1) (je_var 3)) (ja_cons je_int ja_nil))) ja_nil))) ja_nil))) sc_law_weighed.nd))) (passes_of rfl))
    (js_one (js_ret (je_call (ok_law_fraction T) (hr.mono (by decide)) (takes_of rfl rfl rfl rfl) (ja_cons (je_item (je_var 2) je_int) (ja_cons (je_mulI (je_item (je_var 2) je_int) (je_sum T.z_sum (ja_cons (je_var 1) ja_nil))) ja_nil)))))))
theorem sc_law_day : FnScope ["size", "row", "left", "day", "k"] ["size", "row"] (defScope s_law_day) := ⟨rfl, rfl, rfl, by decide +kernel, rfl, by decide +kernel, by decide +kernel⟩
theorem ok_law_day {P : Program} {w : World} {K : PySem.W.Frag} {mg : Str → Option Value} {base : Heap} (T : Txt K mg) : Keeps P w K mg base "_law_day" 1 ["size", "row"] 2 .sh m_law_day :=
  keeps_of T.d_law_day sc_law_day (by decide) fun f cdv A outer s H E hr =>
    (js_cons (js_setLc 2 sc_law_day [("k", 4)] (ji_range1 (ja_cons (je_var 0) ja_nil) T.z_range) (fun _ _ _ _ _ => (jg_name 4 sc_law_day.nd)) (fun _ _ _ _ _ => jts_nil) (fun _ _ _ _ _ => (je_var 4)))
    (js_cons (js_set 3 (je_lst (md := .ow) ja_nil) sc_law_day.nd)
    (js_cons (js_for (ji_range1 (ja_cons (je_var 0) ja_nil) T.z_range) (jg_name 4 sc_law_day.nd) (jss_fgt [4] (js_one (js_appX 3 (jx_pop 2 (je_mod (je_int_ T.z_int (ja_cons (je_item (je_var 1) (je_var 4)) ja_nil)) (je_borrow (m1 := [.sh, .sh, .sh, .sh, .sh]) (je_len T.z_len (ja_cons (je_var 2) ja_nil)))))))) (passes_of rfl))
    (js_one (js_weak1 (m := [.sh, .sh, .ow, .ow, .sh]) (m1 := [.sh, .sh, .ow, .sh, .sh]) (js_ret (je_tuple T.z_tuple (ja_cons (je_var 3) ja_nil))))))))
theorem sc_law_whole : FnScope ["value"] ["value"] (defScope s_law_whole) := ⟨rfl, rfl, rfl, by decide +kernel, rfl, by decide +kernel, by decide +kernel⟩
theorem ok_law_whole {P : Program} {w : World} {K : PySem.W.Frag} {mg : Str → Option Value} {base : Heap} (T : Txt K mg) : Keeps P w K mg base "_law_whole" 1 ["value"] 1 .sh m_law_whole :=
  keeps_of T.d_law_whole sc_law_whole (by decide) fun f cdv A outer s H E hr =>
    (js_one (js_ret (je_and (je_isi "int" T.z_isinstance T.z_int (je_var 0)) (je_last (je_not (je_isi "bool" T.z_isinstance T.z_bool (je_var 0)))))))
theorem sc_law_same : FnScope ["value", "due", "k"] ["value", "due"] (defScope s_law_same) := ⟨rfl, rfl, rfl, by decide +kernel, rfl, by decide +kernel, by decide +kernel⟩
theorem okr_law_same {P : Program} {w : World} {K : PySem.W.Frag} {mg : Str → Option Value} {base : Heap} (T : Txt K mg) : ∀ n, Keeps P w K mg base "_law_same" (1 + n) ["value", "due"] 2 .sh (r_law_same n)
  | 0 => keeps_er T.d_law_same
  | n + 1 => by
    have IH := okr_law_same (P := P) (w := w) (base := base) T n
    exact keeps_of T.d_law_same sc_law_same (by decide) fun f cdv A outer s H E hr =>
    (js_cons (js_if (JW.jt (jw_or (jt_tr (je_isi "tuple" T.z_isinstance T.z_tuple (je_var 1))) (jw_or1 (jt_tr (je_isi "list" T.z_isinstance T.z_list (je_var 1)))))) (js_cons (js_if (JW.jt (jw_or (jt_not (jt_tr (je_isi "tuple" T.z_isinstance T.z_tuple (je_var 0)))) (jw_or1 (jt_ne hr.u (je_len T.z_len (ja_cons (je_var 0) ja_nil)) (je_len T.z_len (ja_cons (je_var 1) ja_nil)))))) (js_one (js_ret je_bl)) js_nil)
    (js_cons (js_for (ji_range1 (ja_cons (je_len T.z_len (ja_cons (je_var 1) ja_nil)) ja_nil) T.z_range) (jg_name 2 sc_law_same.nd) (jss_fgt [2] (js_one (js_if (jt_not (jt_tr (je_call IH (hr.mono (Nat.le_refl _)) (takes_of rfl rfl rfl rfl) (ja_cons (je_item (je_var 0) (je_var 2)) (ja_cons (je_item (je_var 1) (je_var 2)) ja_nil))))) (js_one (js_ret je_bl)) js_nil))) (passes_of rfl))
    (js_one (js_ret je_bl)))) js_nil)
    (js_cons (js_if (jt_isN (je_var 1)) (js_one (js_ret (je_isN (je_var 0)))) js_nil)
    (js_cons (js_if (jt_isB (je_var 1)) (js_one (js_ret (je_isB (je_var 0)))) js_nil)
    (js_cons (js_if (jt_isB (je_var 1)) (js_one (js_ret (je_isB (je_var 0)))) js_nil)
    (js_cons (js_if (jt_tr (je_isi "str" T.z_isinstance T.z_str (je_var 1))) (js_one (js_ret (je_and (je_isi "str" T.z_isinstance T.z_str (je_var 0)) (je_last (je_eq hr.u (je_var 0) (je_var 1)))))) js_nil)
    (js_one (js_ret (je_and (je_call (ok_law_whole T) (hr.mono (Nat.le_trans (show 1 ≤ 1 by decide) (Nat.le_add_right 1 n))) (takes_of rfl rfl rfl rfl) (ja_cons (je_var 0) ja_nil)) (je_last (je_eq hr.u (je_var 0) (je_var 1)))))))))))
theorem ok_law_same {P : Program} {w : World} {K : PySem.W.Frag} {mg : Str → Option Value} {base : Heap} (T : Txt K mg) : Keeps P w K mg base "_law_same" 7 ["value", "due"] 2 .sh m_law_same := okr_law_same T 6
theorem sc_law_sum : FnScope ["items", "total", "item"] ["items"] (defScope s_law_sum) := ⟨rfl, rfl, rfl, by decide +kernel, rfl, by decide +kernel, by decide +kernel⟩
theorem ok_law_sum {P : Program} {w : World} {K : PySem.W.Frag} {mg : Str → Option Value} {base : Heap} (T : Txt K mg) : Keeps P w K mg base "_law_sum" 9 ["items"] 1 .sh m_law_sum :=
  keeps_of T.d_law_sum sc_law_sum (by decide) fun f cdv A outer s H E hr =>
    (js_cons (js_set 1 (je_tup (ja_cons je_int (ja_cons je_int ja_nil))) sc_law_sum.nd)
    (js_cons (js_for (ji_seq (je_var 0)) (jg_name 2 sc_law_sum.nd) (jss_fgt [2] (js_one (js_set 1 (je_call (ok_law_added T) (hr.mono (by decide)) (takes_of rfl rfl rfl rfl) (ja_cons (je_var 1) (ja_cons (je_var 2) ja_nil))) sc_law_sum.nd))) (passes_of rfl))
    (js_one (js_retV 1))))
theorem sc_law_break : FnScope ["rows", "size", "u", "w", "v", "x"] ["rows"] (defScope s_law_break) := ⟨rfl, rfl, rfl, by decide +kernel, rfl, by decide +kernel, by decide +kernel⟩
theorem ok_law_break {P : Program} {w : World} {K : PySem.W.Frag} {mg : Str → Option Value} {base : Heap} (T : Txt K mg) : Keeps P w K mg base "_law_break" 9 ["rows"] 1 .sh m_law_break :=
  keeps_of T.d_law_break sc_law_break (by decide) fun f cdv A outer s H E hr =>
    (js_cons (js_set 1 (je_len T.z_len (ja_cons (je_var 0) ja_nil)) sc_law_break.nd)
    (js_cons (js_for (ji_range1 (ja_cons (je_var 1) ja_nil) T.z_range) (jg_name 2 sc_law_break.nd) (jss_fgt [2, 3, 4, 5] (js_one (js_for (ji_range2 (ja_cons (je_add (je_var 2) je_int) (ja_cons (je_var 1) ja_nil)) T.z_range) (jg_name 3 sc_law_break.nd) (jss_fgt [3, 4, 5] (js_one (js_for (ji_range1 (ja_cons (je_var 1) ja_nil) T.z_range) (jg_name 4 sc_law_break.nd) (jss_fgt [4, 5] (js_one (js_for (ji_range2 (ja_cons (je_add (je_var 4) je_int) (ja_cons (je_var 1) ja_nil)) T.z_range) (jg_name 5 sc_law_break.nd) (jss_fgt [5] (js_one (js_if (jt_ne hr.u (je_call (ok_law_added T) (hr.mono (by decide)) (takes_of rfl rfl rfl rfl) (ja_cons (je_item (je_item (je_var 0) (je_var 2)) (je_var 4)) (ja_cons (je_item (je_item (je_var 0) (je_var 3)) (je_var 5)) ja_nil))) (je_call (ok_law_added T) (hr.mono (by decide)) (takes_of rfl rfl rfl rfl) (ja_cons (je_item (je_item (je_var 0) (je_var 2)) (je_var 5)) (ja_cons (je_item (je_item (je_var 0) (je_var 3)) (je_var 4)) ja_nil)))) (js_one (js_ret (je_tup (ja_cons (je_var 2) (ja_cons (je_var 3) (ja_cons (je_var 4) (ja_cons (je_var 5) ja_nil))))))) js_nil))) (passes_of rfl)))) (passes_of rfl)))) (passes_of rfl)))) (passes_of rfl))
    (js_one (js_ret je_non))))
theorem sc_day_sum : FnScope ["table", "day", "u", "goal"] ["table", "day"] (defScope s_day_sum) := ⟨rfl, rfl, rfl, by decide +kernel, rfl, by decide +kernel, by decide +kernel⟩
theorem ok_day_sum {P : Program} {w : World} {K : PySem.W.Frag} {mg : Str → Option Value} {base : Heap} (T : Txt K mg) : Keeps P w K mg base "day_sum" 4 ["table", "day"] 2 .sh m_day_sum :=
  keeps_of T.d_day_sum sc_day_sum (by decide) fun f cdv A outer s H E hr =>
    (js_one (js_ret (je_call (ok_fraction_sum T) (hr.mono (by decide)) (takes_of rfl rfl rfl rfl) (ja_cons (je_share (je_lc sc_day_sum [("u", 2), ("goal", 3)] (ji_enum (ja_cons (je_var 1) ja_nil) T.z_enumerate) (fun _ _ _ _ _ => (jg_tup2 (jg_name 2 sc_day_sum.nd) (jg_name 3 sc_day_sum.nd))) (fun _ _ _ _ _ => jts_nil) (fun _ _ _ _ _ => (je_item (je_item (je_fld "Table" T.f_Table_rows (je_var 0)) (je_var 2)) (je_var 3))))) ja_nil))))
theorem sc_Table_eq : FnScope ["self", "other"] ["self", "other"] (defScope s_Table_eq) := ⟨rfl, rfl, rfl, by decide +kernel, rfl, by decide +kernel, by decide +kernel⟩
theorem ok_Table_eq {P : Program} {w : World} {K : PySem.W.Frag} {mg : Str → Option Value} {base : Heap} (T : Txt K mg) : KeepsM P w K mg base "Table" "__eq__" 1 ["self", "other"] 2 .sh m_Table_eq :=
  keepsM_of T.d_Table_eq sc_Table_eq (by decide) fun f cdv A outer s H E hr =>
    (js_one (js_ret (je_and (je_isC T.z_isinstance T.i_Table_Table (je_var 1)) (je_last (je_eq hr.u (je_fld "Table" T.f_Table_rows (je_var 0)) (je_fld "Table" T.f_Table_rows (je_var 1)))))))
theorem sc_less : FnScope ["one", "two"] ["one", "two"] (defScope s_less) := ⟨rfl, rfl, rfl, by decide +kernel, rfl, by decide +kernel, by decide +kernel⟩
theorem ok_less {P : Program} {w : World} {K : PySem.W.Frag} {mg : Str → Option Value} {base : Heap} (T : Txt K mg) : Keeps P w K mg base "less" 2 ["one", "two"] 2 .sh m_less :=
  keeps_of T.d_less sc_less (by decide) fun f cdv A outer s H E hr =>
    (js_one (js_ret (je_call (ok_ratio T) (hr.mono (by decide)) (takes_of rfl rfl rfl rfl) (ja_cons (je_sub (je_mulI (je_item (je_var 0) je_int) (je_item (je_var 1) je_int)) (je_mulI (je_item (je_var 1) je_int) (je_item (je_var 0) je_int))) (ja_cons (je_mulI (je_item (je_var 0) je_int) (je_item (je_var 1) je_int)) ja_nil)))))
theorem sc_joined_rows : FnScope ["one", "two", "sign", "joined", "u", "row", "v"] ["one", "two", "sign"] (defScope s_joined_rows) := ⟨rfl, rfl, rfl, by decide +kernel, rfl, by decide +kernel, by decide +kernel⟩
theorem ok_joined_rows {P : Program} {w : World} {K : PySem.W.Frag} {mg : Str → Option Value} {base : Heap} (T : Txt K mg) : Keeps P w K mg base "joined_rows" 3 ["one", "two", "sign"] 3 .sh m_joined_rows :=
  keeps_of T.d_joined_rows sc_joined_rows (by decide) fun f cdv A outer s H E hr =>
    (js_cons (js_set 3 (je_lst (md := .ow) ja_nil) sc_joined_rows.nd)
    (js_cons (js_for (ji_range1 (ja_cons (je_len T.z_len (ja_cons (je_var 0) ja_nil)) ja_nil) T.z_range) (jg_name 4 sc_joined_rows.nd) (jss_fgt [4, 5, 6] (js_cons (js_set 5 (je_lst (md := .ow) ja_nil) sc_joined_rows.nd)
    (js_cons (js_for (ji_range1 (ja_cons (je_len T.z_len (ja_cons (je_var 0) ja_nil)) ja_nil) T.z_range) (jg_name 6 sc_joined_rows.nd) (jss_fgt [6] (js_one (js_fgt [] (js_if (jt_lt (je_var 2) je_int) (js_one (js_app 5 (je_call (ok_less T) (hr.mono (by decide)) (takes_of rfl rfl rfl rfl) (ja_cons (je_item (je_item (je_var 0) (je_var 4)) (je_var 6)) (ja_cons (je_item (je_item (je_var 1) (je_var 4)) (je_var 6)) ja_nil))))) (js_one (js_app 5 (je_call (ok_added T) (hr.mono (by decide)) (takes_of rfl rfl rfl rfl) (ja_cons (je_item (je_item (je_var 0) (je_var 4)) (je_var 6)) (ja_cons (je_item (je_item (je_var 1) (je_var 4)) (je_var 6)) ja_nil))))))))) (passes_of rfl))
    (js_one (js_weak1 (m := [.sh, .sh, .sh, .ow, .sh, .ow, .sh]) (m1 := [.sh, .sh, .sh, .ow, .sh, .sh, .sh]) (js_app 3 (je_tuple T.z_tuple (ja_cons (je_var 5) ja_nil)))))))) (passes_of rfl))
    (js_one (js_weak1 (m := [.sh, .sh, .sh, .ow, .sh, .sh, .sh]) (m1 := [.sh, .sh, .sh, .sh, .sh, .sh, .sh]) (js_ret (je_tuple T.z_tuple (ja_cons (je_var 3) ja_nil)))))))
theorem sc_Table_add : FnScope ["self", "other"] ["self", "other"] (defScope s_Table_add) := ⟨rfl, rfl, rfl, by decide +kernel, rfl, by decide +kernel, by decide +kernel⟩
theorem ok_Table_add {P : Program} {w : World} {K : PySem.W.Frag} {mg : Str → Option Value} {base : Heap} (T : Txt K mg) : KeepsM P w K mg base "Table" "__add__" 9 ["self", "other"] 2 .sh m_Table_add :=
  keepsM_of T.d_Table_add sc_Table_add (by decide) fun f cdv A outer s H E hr =>
    (js_cons (js_if (jt_ne hr.u (je_len T.z_len (ja_cons (je_fld "Table" T.f_Table_rows (je_var 0)) ja_nil)) (je_len T.z_len (ja_cons (je_fld "Table" T.f_Table_rows (je_var 1)) ja_nil))) (js_one (js_raiseN (oe_SizesDiffer T) (hr.mono (by decide)) (takes_of rfl rfl rfl rfl) (ja_cons (je_len T.z_len (ja_cons (je_fld "Table" T.f_Table_rows (je_var 0)) ja_nil)) (ja_cons (je_len T.z_len (ja_cons (je_fld "Table" T.f_Table_rows (je_var 1)) ja_nil)) ja_nil)))) js_nil)
    (js_one (js_ret (je_make (ok_Table_init T) (hr.mono (by decide)) (takes_of rfl rfl rfl rfl) (ja_cons (je_call (ok_joined_rows T) (hr.mono (by decide)) (takes_of rfl rfl rfl rfl) (ja_cons (je_fld "Table" T.f_Table_rows (je_var 0)) (ja_cons (je_fld "Table" T.f_Table_rows (je_var 1)) (ja_cons je_int ja_nil)))) ja_nil)))))
theorem sc_line_sums : FnScope ["rows", "row"] ["rows"] (defScope s_line_sums) := ⟨rfl, rfl, rfl, by decide +kernel, rfl, by decide +kernel, by decide +kernel⟩
theorem ok_line_sums {P : Program} {w : World} {K : PySem.W.Frag} {mg : Str → Option Value} {base : Heap} (T : Txt K mg) : Keeps P w K mg base "line_sums" 4 ["rows"] 1 .sh m_line_sums :=
  keeps_of T.d_line_sums sc_line_sums (by decide) fun f cdv A outer s H E hr =>
    (js_one (js_ret (je_tuple T.z_tuple (ja_cons (je_share (je_lc sc_line_sums [("row", 1)] (ji_seq (je_var 0)) (fun _ _ _ _ _ => (jg_name 1 sc_line_sums.nd)) (fun _ _ _ _ _ => jts_nil) (fun _ _ _ _ _ => (je_call (ok_fraction_sum T) (hr.mono (by decide)) takesF (ja_cons (je_var 1) ja_nil))))) ja_nil))))
theorem sc_Table_row_sums : FnScope ["self"] ["self"] (defScope s_Table_row_sums) := ⟨rfl, rfl, rfl, by decide +kernel, rfl, by decide +kernel, by decide +kernel⟩
theorem ok_Table_row_sums {P : Program} {w : World} {K : PySem.W.Frag} {mg : Str → Option Value} {base : Heap} (T : Txt K mg) : KeepsP P w K mg base "Table" "row_sums" 5 ["self"] m_Table_row_sums :=
  keepsP_of T.d_Table_row_sums sc_Table_row_sums (by decide) rfl fun f cdv A outer s H E hr =>
    (js_one (js_ret (je_call (ok_line_sums T) (hr.mono (by decide)) (takes_of rfl rfl rfl rfl) (ja_cons (je_fld "Table" T.f_Table_rows (je_var 0)) ja_nil))))
theorem sc_Table_column_sums : FnScope ["self"] ["self"] (defScope s_Table_column_sums) := ⟨rfl, rfl, rfl, by decide +kernel, rfl, by decide +kernel, by decide +kernel⟩
theorem ok_Table_column_sums {P : Program} {w : World} {K : PySem.W.Frag} {mg : Str → Option Value} {base : Heap} (T : Txt K mg) : KeepsP P w K mg base "Table" "column_sums" 5 ["self"] m_Table_column_sums :=
  keepsP_of T.d_Table_column_sums sc_Table_column_sums (by decide) rfl fun f cdv A outer s H E hr =>
    (js_one (js_ret (je_call (ok_line_sums T) (hr.mono (by decide)) (takes_of rfl rfl rfl rfl) (ja_cons (je_call (ok_turned_rows T) (hr.mono (by decide)) (takes_of rfl rfl rfl rfl) (ja_cons (je_fld "Table" T.f_Table_rows (je_var 0)) ja_nil)) ja_nil))))
theorem sc_constant_load : FnScope ["table", "lot", "sums", "row", "column"] ["table", "lot"] (defScope s_constant_load) := ⟨rfl, rfl, rfl, by decide +kernel, rfl, by decide +kernel, by decide +kernel⟩
theorem ok_constant_load {P : Program} {w : World} {K : PySem.W.Frag} {mg : Str → Option Value} {base : Heap} (T : Txt K mg) : Keeps P w K mg base "constant_load" 8 ["table", "lot"] 2 .sh m_constant_load :=
  keeps_of T.d_constant_load sc_constant_load (by decide) fun f cdv A outer s H E hr =>
    (js_cons (js_set 1 (je_call (ok_checked_lot T) (hr.mono (by decide)) (takes_of rfl rfl rfl rfl) (ja_cons (je_call (ok_frozen T) (hr.mono (by decide)) (takes_of rfl rfl rfl rfl) (ja_cons (je_var 1) ja_nil)) (ja_cons (je_fld "Table" T.f_Table_size (je_var 0)) ja_nil))) sc_constant_load.nd)
    (js_cons (js_setLc 2 sc_constant_load [("row", 3), ("column", 4)] (ji_zip (ja_cons (je_prop (ok_Table_row_sums T) (hr.mono (by decide)) (je_var 0)) (ja_cons (je_prop (ok_Table_column_sums T) (hr.mono (by decide)) (je_var 0)) ja_nil)) T.z_zip) (fun _ _ _ _ _ => (jg_tup2 (jg_name 3 sc_constant_load.nd) (jg_name 4 sc_constant_load.nd))) (fun _ _ _ _ _ => jts_nil) (fun _ _ _ _ _ => (je_call (ok_added T) (hr.mono (by decide)) takesF (ja_cons (je_var 3) (ja_cons (je_var 4) ja_nil)))))
    (js_one (js_weak1 (m := [.sh, .sh, .ow, .sh, .sh]) (m1 := [.sh, .sh, .sh, .sh, .sh]) (js_ret (je_call (ok_weighed T) (hr.mono (by decide)) (takes_of rfl rfl rfl rfl) (ja_cons (je_var 2) (ja_cons (je_var 1) ja_nil))))))))
theorem sc_plain_table : FnScope ["size", "number", "row", "column"] ["size", "number"] (defScope s_plain_table) := ⟨rfl, rfl, rfl, by decide +kernel, rfl, by decide +kernel, by decide +kernel⟩
theorem ok_plain_table {P : Program} {w : World} {K : PySem.W.Frag} {mg : Str → Option Value} {base : Heap} (T : Txt K mg) : Keeps P w K mg base "plain_table" 9 ["size", "number"] 2 .sh m_plain_table :=
  keeps_of T.d_plain_table sc_plain_table (by decide) fun f cdv A outer s H E hr =>
    (js_one (js_ret (je_make (ok_Table_init T) (hr.mono (by decide)) (takes_of rfl rfl rfl rfl) (ja_cons (je_share (je_lc sc_plain_table [("row", 2)] (ji_range1 (ja_cons (je_var 0) ja_nil) T.z_range) (fun _ _ _ _ _ => (jg_name 2 sc_plain_table.nd)) (fun _ _ _ _ _ => jts_nil) (fun _ _ _ _ _ => (je_share (je_lcB sc_plain_table [("column", 3)] (ji_range1 (ja_cons (je_var 0) ja_nil) T.z_range) (fun _ _ _ _ _ => (jg_name 3 sc_plain_table.nd)) (fun _ _ _ _ _ => jts_nil) (fun _ _ _ _ _ => (je_call (ok_frozen T) (hr.mono (by decide)) takesF (ja_cons (je_var 1) ja_nil)))))))) ja_nil))))
theorem sc_even_lot : FnScope ["size", "node"] ["size"] (defScope s_even_lot) := ⟨rfl, rfl, rfl, by decide +kernel, rfl, by decide +kernel, by decide +kernel⟩
theorem ok_even_lot {P : Program} {w : World} {K : PySem.W.Frag} {mg : Str → Option Value} {base : Heap} (T : Txt K mg) : Keeps P w K mg base "even_lot" 3 ["size"] 1 .sh m_even_lot :=
  keeps_of T.d_even_lot sc_even_lot (by decide) fun f cdv A outer s H E hr =>
    (js_cons (js_if (jt_not (jt_chain op_le op_le opd_P opd_P je_int (je_var 0) (je_globI T.c_MOST_NODES))) (js_one (js_raiseN (oe_BadSize T) (hr.mono (by decide)) (takes_of rfl rfl rfl rfl) (ja_cons (je_var 0) ja_nil))) js_nil)
    (js_one (js_ret (je_tuple T.z_tuple (ja_cons (je_share (je_lc sc_even_lot [("node", 1)] (ji_range1 (ja_cons (je_var 0) ja_nil) T.z_range) (fun _ _ _ _ _ => (jg_name 1 sc_even_lot.nd)) (fun _ _ _ _ _ => jts_nil) (fun _ _ _ _ _ => je_int))) ja_nil)))))
theorem sc_Table_mean_day : FnScope ["self", "total"] ["self"] (defScope s_Table_mean_day) := ⟨rfl, rfl, rfl, by decide +kernel, rfl, by decide +kernel, by decide +kernel⟩
theorem ok_Table_mean_day {P : Program} {w : World} {K : PySem.W.Frag} {mg : Str → Option Value} {base : Heap} (T : Txt K mg) : KeepsP P w K mg base "Table" "mean_day" 5 ["self"] m_Table_mean_day :=
  keepsP_of T.d_Table_mean_day sc_Table_mean_day (by decide) rfl fun f cdv A outer s H E hr =>
    (js_cons (js_set 1 (je_call (ok_fraction_sum T) (hr.mono (by decide)) (takes_of rfl rfl rfl rfl) (ja_cons (je_call (ok_line_sums T) (hr.mono (by decide)) (takes_of rfl rfl rfl rfl) (ja_cons (je_fld "Table" T.f_Table_rows (je_var 0)) ja_nil)) ja_nil)) sc_Table_mean_day.nd)
    (js_one (js_ret (je_call (ok_ratio T) (hr.mono (by decide)) (takes_of rfl rfl rfl rfl) (ja_cons (je_item (je_var 1) je_int) (ja_cons (je_mulI (je_item (je_var 1) je_int) (je_len T.z_len (ja_cons (je_fld "Table" T.f_Table_rows (je_var 0)) ja_nil))) ja_nil))))))
theorem sc_law : FnScope ["script", "rows", "size", "table", "even", "told", "columns", "sums", "others", "due", "u", "total", "middle", "shifted", "split", "twice", "lot", "first", "second", "mixed", "load", "day", "w", "v", "line", "column", "one", "item", "two"] ["script"] (defScope s_law) := ⟨rfl, rfl, rfl, by decide +kernel, rfl, by decide +kernel, by decide +kernel⟩
theorem okf_law {P : Program} {w : World} {K : PySem.W.Frag} {mg : Str → Option Value} {base : Heap} (T : Txt K mg) {f : Addr} {fd : FuncData} (Fn : Fun K "law" "law" s_law f fd) : FnOk P w K mg base (L2.CX P w) 11 f fd ["script"] (spD K mg 1 .sh m_law) :=
  fn_ok (m' := msh 29) Fn sc_law (by decide) fun cdv A outer s H E hr =>
    (js_cons (js_set 1 (je_call (ok_law_drawn_rows2 T) (hr.mono (by decide)) (takes_of rfl rfl rfl rfl) (ja_cons (je_var 0) ja_nil)) sc_law.nd)
    (js_cons (js_set 2 (je_len T.z_len (ja_cons (je_var 1) ja_nil)) sc_law.nd)
    (js_cons (js_set 3 (je_make (ok_Table_init T) (hr.mono (by decide)) (takes_of rfl rfl rfl rfl) (ja_cons (je_var 1) ja_nil)) sc_law.nd)
    (js_cons (js_setLc 4 sc_law [("w", 22)] (ji_range1 (ja_cons (je_var 2) ja_nil) T.z_range) (fun _ _ _ _ _ => (jg_name 22 sc_law.nd)) (fun _ _ _ _ _ => jts_nil) (fun _ _ _ _ _ => je_int))
    (js_cons (js_weak1 (m := [.sh, .sh, .sh, .sh, .ow, .sh, .sh, .sh, .sh, .sh, .sh, .sh, .sh, .sh, .sh, .sh, .sh, .sh, .sh, .sh, .sh, .sh, .sh, .sh, .sh, .sh, .sh, .sh, .sh]) (m1 := [.sh, .sh, .sh, .sh, .sh, .sh, .sh, .sh, .sh, .sh, .sh, .sh, .sh, .sh, .sh, .sh, .sh, .sh, .sh, .sh, .sh, .sh, .sh, .sh, .sh, .sh, .sh, .sh, .sh]) (js_set 5 (je_call (ok_halfway_table T) (hr.mono (by decide)) (takes_of rfl rfl rfl rfl) (ja_cons (je_var 3) (ja_cons (je_var 4) ja_nil))) sc_law.nd))
    (js_cons (js_setLc 6 sc_law [("v", 23)] (ji_range1 (ja_cons (je_var 2) ja_nil) T.z_range) (fun _ _ _ _ _ => (jg_name 23 sc_law.nd)) (fun _ _ _ _ _ => jts_nil) (fun _ _ _ _ _ => (je_share (je_lcB sc_law [("line", 24)] (ji_seq (je_var 1)) (fun _ _ _ _ _ => (jg_name 24 sc_law.nd)) (fun _ _ _ _ _ => jts_nil) (fun _ _ _ _ _ => (je_item (je_var 24) (je_var 23)))))))
    (js_cons (js_set 7 (je_lc sc_law [("line", 24)] (ji_seq (je_var 1)) (fun _ _ _ _ _ => (jg_name 24 sc_law.nd)) (fun _ _ _ _ _ => jts_nil) (fun _ _ _ _ _ => (je_call (ok_law_sum T) (hr.mono (by decide)) takesF (ja_cons (je_var 24) ja_nil)))) sc_law.nd)
    (js_cons (js_weak1 (m := [.sh, .sh, .sh, .sh, .sh, .sh, .ow, .ow, .sh, .sh, .sh, .sh, .sh, .sh, .sh, .sh, .sh, .sh, .sh, .sh, .sh, .sh, .sh, .sh, .sh, .sh, .sh, .sh, .sh]) (m1 := [.sh, .sh, .sh, .sh, .sh, .sh, .sh, .ow, .sh, .sh, .sh, .sh, .sh, .sh, .sh, .sh, .sh, .sh, .sh, .sh, .sh, .sh, .sh, .sh, .sh, .sh, .sh, .sh, .sh]) (js_set 8 (je_lc sc_law [("column", 25)] (ji_seq (je_var 6)) (fun _ _ _ _ _ => (jg_name 25 sc_law.nd)) (fun _ _ _ _ _ => jts_nil) (fun _ _ _ _ _ => (je_call (ok_law_sum T) (hr.mono (by decide)) takesF (ja_cons (je_var 25) ja_nil)))) sc_law.nd))
    (js_cons (js_set 9 (je_lst (md := .ow) ja_nil) sc_law.nd)
    (js_cons (js_for (ji_range1 (ja_cons (je_var 2) ja_nil) T.z_range) (jg_name 10 sc_law.nd) (jss_fgt [10] (js_one (js_app 9 (je_share (je_lc sc_law [("v", 23)] (ji_range1 (ja_cons (je_var 2) ja_nil) T.z_range) (fun _ _ _ _ _ => (jg_name 23 sc_law.nd)) (fun _ _ _ _ _ => jts_nil) (fun _ _ _ _ _ => (je_call (ok_law_timed T) (hr.mono (by decide)) takesF (ja_cons (je_call (ok_law_added T) (hr.mono (by decide)) takesF (ja_cons (je_itemO 7 (je_var 10)) (ja_cons (je_itemO 8 (je_var 23)) ja_nil))) (ja_cons (je_tup (ja_cons je_int (ja_cons (je_var 2) ja_nil))) ja_nil))))))))) (passes_of rfl))
    (js_cons (js_if (jt_not (jt_borrow (m1 := [.sh, .sh, .sh, .sh, .sh, .sh, .sh, .sh, .sh, .sh, .sh, .sh, .sh, .sh, .sh, .sh, .sh, .sh, .sh, .sh, .sh, .sh, .sh, .sh, .sh, .sh, .sh, .sh, .sh]) (jt_tr (je_call (ok_law_same T) (hr.mono (by decide)) (takes_of rfl rfl rfl rfl) (ja_cons (je_fld "Table" T.f_Table_rows (je_var 5)) (ja_cons (je_var 9) ja_nil)))))) (js_one (js_ret je_bl)) js_nil)
    (js_cons (js_set 11 (je_call (ok_law_total T) (hr.mono (by decide)) (takes_of rfl rfl rfl rfl) (ja_cons (je_var 1) ja_nil)) sc_law.nd)
    (js_cons (js_set 12 (je_call (ok_law_fraction T) (hr.mono (by decide)) (takes_of rfl rfl rfl rfl) (ja_cons (je_item (je_var 11) je_int) (ja_cons (je_mulI (je_mulI (je_item (je_var 11) je_int) (je_var 2)) (je_var 2)) ja_nil))) sc_law.nd)
    (js_cons (js_setLc 13 sc_law [("line", 24)] (ji_seq (je_var 1)) (fun _ _ _ _ _ => (jg_name 24 sc_law.nd)) (fun _ _ _ _ _ => jts_nil) (fun _ _ _ _ _ => (je_share (je_lcB sc_law [("item", 27)] (ji_seq (je_var 24)) (fun _ _ _ _ _ => (jg_name 27 sc_law.nd)) (fun _ _ _ _ _ => jts_nil) (fun _ _ _ _ _ => (je_call (ok_law_added T) (hr.mono (by decide)) takesF (ja_cons (je_var 27) (ja_cons (je_var 12) ja_nil))))))))
    (js_cons (js_set 14 (je_isN (je_call (ok_law_break T) (hr.mono (by decide)) (takes_of rfl rfl rfl rfl) (ja_cons (je_var 1) ja_nil))) sc_law.nd)
    (js_cons (js_if (JW.jt (jw_or (jt_ne hr.u (je_borrow (m1 := [.sh, .sh, .sh, .sh, .sh, .sh, .sh, .sh, .sh, .sh, .sh, .sh, .sh, .sh, .sh, .sh, .sh, .sh, .sh, .sh, .sh, .sh, .sh, .sh, .sh, .sh, .sh, .sh, .sh]) (je_eq hr.u (je_var 9) (je_var 13))) (je_var 14)) (jw_or1 (jt_ne hr.u (je_eqO (ok_Table_eq T) (hr.mono (by decide)) (je_var 5) (je_addO (ok_Table_add T) T.sf_Table (hr.mono (by decide)) (je_var 3) (je_call (ok_plain_table T) (hr.mono (by decide)) (takes_of rfl rfl rfl rfl) (ja_cons (je_var 2) (ja_cons (je_var 12) ja_nil))))) (je_var 14))))) (js_one (js_ret je_bl)) js_nil)
    (js_cons (js_set 15 (je_call (ok_law_fraction T) (hr.mono (by decide)) (takes_of rfl rfl rfl rfl) (ja_cons (je_mulI je_int (je_item (je_var 11) je_int)) (ja_cons (je_mulI (je_item (je_var 11) je_int) (je_var 2)) ja_nil))) sc_law.nd)
    (js_cons (js_if (JW.jt (jw_or (jt_not (jt_tr (je_call (ok_law_same T) (hr.mono (by decide)) (takes_of rfl rfl rfl rfl) (ja_cons (je_call (ok_constant_load T) (hr.mono (by decide)) (takes_of rfl rfl rfl rfl) (ja_cons (je_var 3) (ja_cons (je_call (ok_even_lot T) (hr.mono (by decide)) (takes_of rfl rfl rfl rfl) (ja_cons (je_var 2) ja_nil)) ja_nil))) (ja_cons (je_var 15) ja_nil))))) (jw_or1 (jt_not (jt_tr (je_call (ok_law_same T) (hr.mono (by decide)) (takes_of rfl rfl rfl rfl) (ja_cons (je_call (ok_law_timed T) (hr.mono (by decide)) (takes_of rfl rfl rfl rfl) (ja_cons (je_prop (ok_Table_mean_day T) (hr.mono (by decide)) (je_var 3)) (ja_cons (je_tup (ja_cons je_int (ja_cons je_int ja_nil))) ja_nil))) (ja_cons (je_var 15) ja_nil)))))))) (js_one (js_ret je_bl)) js_nil)
    (js_cons (js_set 16 (je_call (ok_law_any_lot T) (hr.mono (by decide)) (takes_of rfl rfl rfl rfl) (ja_cons (je_var 2) (ja_cons (je_share (je_call (ok_law_digits T) (hr.mono (by decide)) (takes_of rfl rfl rfl rfl) (ja_cons (je_call (ok_law_cell T) (hr.mono (by decide)) (takes_of rfl rfl rfl rfl) (ja_cons (je_var 0) (ja_cons je_int ja_nil))) (ja_cons (je_share (je_addL (je_share (je_lst (md := .ow) (ja_cons je_int ja_nil))) (je_share (je_rep (je_share (je_lst (md := .ow) (ja_cons je_int ja_nil))) (je_var 2))))) ja_nil)))) ja_nil))) sc_law.nd)
    (js_cons (js_weak1 (m := [.sh, .sh, .sh, .sh, .sh, .sh, .sh, .ow, .ow, .ow, .sh, .sh, .sh, .ow, .sh, .sh, .ow, .sh, .sh, .sh, .sh, .sh, .sh, .sh, .sh, .sh, .sh, .sh, .sh]) (m1 := [.sh, .sh, .sh, .sh, .sh, .sh, .sh, .ow, .ow, .ow, .sh, .sh, .sh, .ow, .sh, .sh, .sh, .sh, .sh, .sh, .sh, .sh, .sh, .sh, .sh, .sh, .sh, .sh, .sh]) (js_setLc 17 sc_law [("line", 24)] (ji_seq (je_var 1)) (fun _ _ _ _ _ => (jg_name 24 sc_law.nd)) (fun _ _ _ _ _ => jts_nil) (fun _ _ _ _ _ => (je_call (ok_law_weighed T) (hr.mono (by decide)) takesF (ja_cons (je_var 24) (ja_cons (je_var 16) ja_nil))))))
    (js_cons (js_set 18 (je_lc sc_law [("column", 25)] (ji_seq (je_var 6)) (fun _ _ _ _ _ => (jg_name 25 sc_law.nd)) (fun _ _ _ _ _ => jts_nil) (fun _ _ _ _ _ => (je_call (ok_law_weighed T) (hr.mono (by decide)) takesF (ja_cons (je_var 25) (ja_cons (je_var 16) ja_nil))))) sc_law.nd)
    (js_cons (js_weak1 (m := [.sh, .sh, .sh, .sh, .sh, .sh, .sh, .ow, .ow, .ow, .sh, .sh, .sh, .ow, .sh, .sh, .sh, .ow, .ow, .sh, .sh, .sh, .sh, .sh, .sh, .sh, .sh, .sh, .sh]) (m1 := [.sh, .sh, .sh, .sh, .sh, .sh, .sh, .ow, .ow, .ow, .sh, .sh, .sh, .ow, .sh, .sh, .sh, .sh, .ow, .sh, .sh, .sh, .sh, .sh, .sh, .sh, .sh, .sh, .sh]) (js_weak1 (m := [.sh, .sh, .sh, .sh, .sh, .sh, .sh, .ow, .ow, .ow, .sh, .sh, .sh, .ow, .sh, .sh, .sh, .sh, .ow, .sh, .sh, .sh, .sh, .sh, .sh, .sh, .sh, .sh, .sh]) (m1 := [.sh, .sh, .sh, .sh, .sh, .sh, .sh, .ow, .ow, .ow, .sh, .sh, .sh, .ow, .sh, .sh, .sh, .sh, .sh, .sh, .sh, .sh, .sh, .sh, .sh, .sh, .sh, .sh, .sh]) (js_setLc 19 sc_law [("one", 26)] (ji_seq (je_var 17)) (fun _ _ _ _ _ => (jg_name 26 sc_law.nd)) (fun _ _ _ _ _ => jts_nil) (fun _ _ _ _ _ => (je_share (je_lcB sc_law [("two", 28)] (ji_seq (je_var 18)) (fun _ _ _ _ _ => (jg_name 28 sc_law.nd)) (fun _ _ _ _ _ => jts_nil) (fun _ _ _ _ _ => (je_call (ok_law_added T) (hr.mono (by decide)) takesF (ja_cons (je_var 26) (ja_cons (je_var 28) ja_nil))))))))))
    (js_cons (js_set 20 (je_call (ok_law_weighed T) (hr.mono (by decide)) (takes_of rfl rfl rfl rfl) (ja_cons (je_share (je_lc sc_law [("w", 22)] (ji_range1 (ja_cons (je_var 2) ja_nil) T.z_range) (fun _ _ _ _ _ => (jg_name 22 sc_law.nd)) (fun _ _ _ _ _ => jts_nil) (fun _ _ _ _ _ => (je_call (ok_law_added T) (hr.mono (by decide)) takesF (ja_cons (je_itemO 7 (je_var 22)) (ja_cons (je_itemO 8 (je_var 22)) ja_nil)))))) (ja_cons (je_var 16) ja_nil))) sc_law.nd)
    (js_cons (js_if (JW.jt (jw_or (jt_not (jt_borrow (m1 := [.sh, .sh, .sh, .sh, .sh, .sh, .sh, .sh, .sh, .sh, .sh, .sh, .sh, .sh, .sh, .sh, .sh, .sh, .sh, .sh, .sh, .sh, .sh, .sh, .sh, .sh, .sh, .sh, .sh]) (jt_tr (je_call (ok_law_same T) (hr.mono (by decide)) (takes_of rfl rfl rfl rfl) (ja_cons (je_fld "Table" T.f_Table_rows (je_call (ok_halfway_table T) (hr.mono (by decide)) (takes_of rfl rfl rfl rfl) (ja_cons (je_var 3) (ja_cons (je_var 16) ja_nil)))) (ja_cons (je_var 19) ja_nil)))))) (jw_or1 (jt_not (jt_tr (je_call (ok_law_same T) (hr.mono (by decide)) (takes_of rfl rfl rfl rfl) (ja_cons (je_call (ok_constant_load T) (hr.mono (by decide)) (takes_of rfl rfl rfl rfl) (ja_cons (je_var 3) (ja_cons (je_var 16) ja_nil))) (ja_cons (je_var 20) ja_nil)))))))) (js_one (js_ret je_bl)) js_nil)
    (js_cons (js_set 21 (je_call (ok_law_day T) (hr.mono (by decide)) (takes_of rfl rfl rfl rfl) (ja_cons (je_var 2) (ja_cons (je_share (je_call (ok_law_digits T) (hr.mono (by decide)) (takes_of rfl rfl rfl rfl) (ja_cons (je_call (ok_law_cell T) (hr.mono (by decide)) (takes_of rfl rfl rfl rfl) (ja_cons (je_var 0) (ja_cons je_int ja_nil))) (ja_cons (je_share (je_rep (je_share (je_lst (md := .ow) (ja_cons je_int ja_nil))) (je_var 2))) ja_nil)))) ja_nil))) sc_law.nd)
    (js_one (js_ret (je_call (ok_law_same T) (hr.mono (by decide)) (takes_of rfl rfl rfl rfl) (ja_cons (je_call (ok_day_sum T) (hr.mono (by decide)) (takes_of rfl rfl rfl rfl) (ja_cons (je_call (ok_halfway_table T) (hr.mono (by decide)) (takes_of rfl rfl rfl rfl) (ja_cons (je_var 3) (ja_cons (je_var 16) ja_nil))) (ja_cons (je_var 21) ja_nil))) (ja_cons (je_var 20) ja_nil))))))))))))))))))))))))))))))
end Kx
namespace Da
open PySem PySem.Spec L2
section
variable {α β γ : Type}
@[simp] theorem Res.bind_ret (r : Res α) : (r.bind fun x => .ok x) = r := by cases r <;> rfl
@[simp] theorem Res.bind_assoc (r : Res α) (f : α → Res β) (g : β → Res γ) : (r.bind f).bind g = r.bind fun x => (f x).bind g := by cases r <;> rfl
theorem mulR_of {i j : Int} (h : mulOk i j = true) : mulR i j = .ok (i * j) := if_pos h
theorem mulR_64 {i j : Int} (hi : i.natAbs < 18446744073709551616) (hj : j.natAbs < 18446744073709551616) : mulR i j = .ok (i * j) := mulR_of (mul64 hi hj)
theorem mulR_44 {i j : Int} (hi : i.natAbs < 2 ^ 4400) (hj : j.natAbs < 2 ^ 4400) : mulR i j = .ok (i * j) := mulR_of (mulOk_of (a := 4400) (b := 4400) hi hj)
theorem modR_pos {i j : Int} (h : 0 < j) : modR i j = .ok (i % j) := if_pos h
theorem divR_pos {i j : Int} (h : 0 < j) (h9 : j.natAbs < Lim) : divR i j = .ok (i / j) := if_pos ⟨h, log2_lt h9 (by decide)⟩
theorem divR_64 {i j : Int} (h : 0 < j) (h9 : j < 18446744073709551616) : divR i j = .ok (i / j) := divR_pos h (lt_lim (by omega))
theorem powR_of {i j r : Int} (h : powOk i j = true) (hr : i ^ j.toNat = r) : powR i j = .ok r := by rw [← hr]; exact if_pos h
theorem powR_18 : powR 10 18 = .ok 1000000000000000000 := powR_of (stuck_iff.mpr (by omega)) (by decide +kernel)
theorem ixR_nat {xs : List α} {i : Nat} {x : α} (h : xs[i]? = some x) : ixR xs (i : Int) = .ok x := by unfold ixR; rw [atI_nat h]
theorem ixR_of {xs : List α} {i : Int} {x : α} (h0 : 0 ≤ i) (h : xs[i.toNat]? = some x) : ixR xs i = .ok x := by
  have := ixR_nat h
  rwa [show ((i.toNat : Nat) : Int) = i by omega] at this
theorem appR_ok {xs : List α} {x : α} (h : xs.length < 1000000) : appR xs x = .ok (xs ++ [x]) := if_pos (szOk_yes h)
theorem catR_ok {xs ys : List α} (h : xs.length + ys.length ≤ 1000000) : catR xs ys = .ok (xs ++ ys) := if_pos (szOk_yes h)
theorem repR_ok {xs : List α} {k : Int} (h : k < 9223372036854775808 ∧ -9223372036854775808 ≤ k) (h2 : xs.length * k.toNat ≤ 1000000) : repR xs k = .ok (List.replicate k.toNat xs).flatten := if_pos (stuck_iff.mpr ⟨by omega, szOk_yes h2⟩)
theorem rep1 {x : α} {n : Nat} : (List.replicate n [x]).flatten = List.replicate n x := by
  induction n with
  | zero => rfl
  | succ n ih => rw [List.replicate_succ, List.flatten_cons, ih, List.replicate_succ]; rfl
theorem setR_nat {xs : List α} {i : Nat} {x : α} (h : i < xs.length) : setR xs (i : Int) x = .ok (xs.set i x) := by
  unfold setR
  rw [show ixN xs.length (i : Int) = some i by unfold ixN; rw [if_pos (by omega), if_pos (by omega)]; simp]
theorem popR_of {xs : List α} {i : Int} (h0 : 0 ≤ i) (h : i < xs.length) (hz : xs.length ≤ 1000000) : popR xs i = .ok (xs[i.toNat]'(by omega), xs.eraseIdx i.toNat) := by
  unfold popR
  rw [show ixN xs.length i = some i.toNat by unfold ixN; rw [if_pos h0, if_pos h]]
  simp only [List.getElem?_eq_getElem (show i.toNat < xs.length by omega), szOk_yes hz, if_true]
theorem rngI_upto {n : Nat} : rngI 0 n = upto n := by
  unfold rngI upto
  exact List.map_congr_left fun i _ => Int.zero_add _
theorem rngR_ok {j : Int} (h0 : 0 ≤ j) (h : j < 4611686018427387904) : rngR j = .ok (upto j.toNat) := by
  unfold rngR
  rw [if_pos (show rngOk 0 j = true from stuck_iff.mpr (by omega)), rngI_upto]
theorem rngR_nat {n : Nat} (h : n < 4611686018427387904) : rngR (n : Int) = .ok (upto n) := by rw [rngR_ok (by omega) (by omega)]; simp
theorem rng2R_ok {i j : Int} (h0 : -4611686018427387904 ≤ i) (h1 : i < 4611686018427387904) (h2 : -4611686018427387904 ≤ j) (h : j < 4611686018427387904) : rng2R i j = .ok (rngI i (j - i).toNat) := by
  unfold rng2R
  rw [if_pos (show rngOk i j = true from stuck_iff.mpr (by omega))]
theorem upto_get {n i : Nat} {x : Int} (h : (upto n)[i]? = some x) : x = (i : Int) ∧ i < n := by
  unfold upto at h
  rw [List.getElem?_map] at h
  cases e : (List.range n)[i]? with
  | none => rw [e] at h; cases h
  | some j =>
    rw [e] at h
    have hi := (List.getElem?_eq_some_iff.mp e).1
    rw [List.length_range] at hi
    rw [List.getElem?_range hi] at e
    cases e; cases h
    exact ⟨rfl, hi⟩
@[simp] theorem rngI_length {lo : Int} {n : Nat} : (rngI lo n).length = n := by unfold rngI; rw [List.length_map, List.length_range]
theorem mem_rngI {lo : Int} {n : Nat} {x : Int} : x ∈ rngI lo n ↔ lo ≤ x ∧ x < lo + n := by
  unfold rngI
  rw [List.mem_map]
  constructor
  · rintro ⟨i, hi, rfl⟩
    have := List.mem_range.mp hi
    omega
  · intro h
    exact ⟨(x - lo).toNat, List.mem_range.mpr (by omega), by omega⟩
/-- a loop over 0 .. n - 1 -/
theorem forR_upto {σ : Type} {f : σ → Int → Res σ} {n : Nat} {s : σ} (P : Nat → σ → Prop) (h0 : P 0 s) (hs : ∀ (i : Nat) s, i < n → P i s → ∃ s', f s (i : Int) = .ok s' ∧ P (i + 1) s') : ∃ s', forR f (upto n) s = .ok s' ∧ P n s' := by
  obtain ⟨s', e, p⟩ := forR_inv (xs := upto n) (f := f) (s := s) P h0 (fun i x s hx p => by
    obtain ⟨rfl, hi⟩ := upto_get hx
    exact hs i s hi p)
  rw [upto_length] at p
  exact ⟨s', e, p⟩
theorem forC_upto {σ τ : Type} {f : σ → Int → Res (Ctl σ τ)} {n : Nat} {s : σ} (Q : Ctl σ τ → Prop) (P : Nat → σ → Prop) (h0 : P 0 s) (hs : ∀ (i : Nat) s, i < n → P i s → ∃ o, f s (i : Int) = .ok o ∧ (match o with
    | .go s' => P (i + 1) s'
    | .out s' => Q (.go s')
    | .ret b => Q (.ret b))) (hd : ∀ s, P n s → Q (.go s)) : ∃ o, forC f (upto n) s = .ok o ∧ Q o :=
  forC_inv Q P h0 (fun i x s hx p => by
    obtain ⟨rfl, hi⟩ := upto_get hx
    exact hs i s hi p) (fun s p => hd s (by rw [upto_length] at p; exact p))
@[simp] theorem forC_nil {α σ τ : Type} {f : σ → α → Res (Ctl σ τ)} {s : σ} : forC f [] s = .ok (.go s) := rfl
theorem forC_cons {α σ τ : Type} {f : σ → α → Res (Ctl σ τ)} {x : α} {xs : List α} {s : σ} : forC f (x :: xs) s = (f s x).bind fun o => match o with
    | .go s => forC f xs s
    | .out s => .ok (.go s)
    | .ret b => .ok (.ret b) := rfl
@[simp] theorem forR_nil {α σ : Type} {f : σ → α → Res σ} {s : σ} : forR f [] s = .ok s := rfl
@[simp] theorem forR_cons {α σ : Type} {f : σ → α → Res σ} {x : α} {xs : List α} {s : σ} : forR f (x :: xs) s = (f s x).bind fun s => forR f xs s := rfl
@[simp] theorem ctlS_go {σ τ : Type} {s : σ} : ctlS (.go s : Ctl σ τ) = .ok s := rfl
@[simp] theorem ctlS_out {σ τ : Type} {s : σ} : ctlS (.out s : Ctl σ τ) = .ok s := rfl
@[simp] theorem ctlK_go {σ τ γ : Type} {k : σ → Res γ} {rk : τ → γ} {s : σ} : ctlK k rk (.go s) = k s := rfl
@[simp] theorem ctlK_ret {σ τ γ : Type} {k : σ → Res γ} {rk : τ → γ} {b : τ} : ctlK k rk (.ret b : Ctl σ τ) = .ok (rk b) := rfl
theorem lcR_mapM {α β : Type} {xs : List α} {f : α → Res β} (P : α → β → Prop) (hz : xs.length ≤ 1000000) (h : ∀ x ∈ xs, ∃ y, f x = .ok y ∧ P x y) : ∃ ys, lcR xs (fun _ => .ok true) f = .ok ys ∧ ys.length = xs.length ∧ ∀ (i : Nat) x, xs[i]? = some x → ∃ y, ys[i]? = some y ∧ P x y := by
  unfold lcR
  rw [if_pos (szOk_yes hz)]
  clear hz
  induction xs with
  | nil => exact ⟨[], rfl, rfl, fun i x hx => by simp at hx⟩
  | cons x xs ih =>
    obtain ⟨y, e, p⟩ := h x List.mem_cons_self
    obtain ⟨ys, e2, hl, hp⟩ := ih fun y hy => h y (List.mem_cons_of_mem _ hy)
    refine ⟨y :: ys, ?_, by rw [List.length_cons, List.length_cons, hl], fun i z hz => ?_⟩
    · unfold lcR.go
      rw [e, e2]
      rfl
    · cases i with
      | zero => cases hz; exact ⟨y, rfl, p⟩
      | succ i => exact hp i z (by simpa using hz)
theorem enumI_eq : ∀ (xs : List α) (i : Nat), enumI i xs = (xs.zipIdx i).map fun p => ((p.2 : Int), p.1)
  | [], _ => rfl
  | x :: xs, i => by
    show ((i : Int), x) :: enumI (i + 1) xs = _
    rw [enumI_eq, List.zipIdx_cons]
    rfl
theorem enumI_length {xs : List α} {i : Nat} : (enumI i xs).length = xs.length := by rw [enumI_eq, List.length_map, List.length_zipIdx]
theorem enumI_at {xs : List α} {i j : Nat} {p : Int × α} (h : (enumI i xs)[j]? = some p) : p.1 = ((i + j : Nat) : Int) ∧ xs[j]? = some p.2 := by
  rw [enumI_eq, List.getElem?_map, List.getElem?_zipIdx] at h
  cases e : xs[j]? with
  | none => rw [e] at h; cases h
  | some x => rw [e] at h; cases h; exact ⟨rfl, rfl⟩
end
/-- the number q as a pair -/
def fq (q : Rat) : Int × Int := (q.num, (q.den : Int))
theorem fq_inj {p q : Rat} : fq p = fq q ↔ p = q := by
  constructor
  · intro h
    have h1 : p.num = q.num := congrArg Prod.fst h
    have h2 : (p.den : Int) = (q.den : Int) := congrArg Prod.snd h
    rw [rat_eq p, rat_eq q, h1, h2]
  · intro h; rw [h]
@[simp] theorem fq_dec {p q : Rat} : decide (fq p = fq q) = decide (p = q) := by
  by_cases h : p = q
  · subst h; simp
  · simp [h, fq_inj]
theorem fqc_eq {t b : Int} (hb : 0 < b) : (t / (Int.gcd t b : Int), b / (Int.gcd t b : Int)) = fq ((t : Rat) / (b : Rat)) := by
  have h := frac_eq (t := t) hb
  injection h with h
  injection h with h1 h2
  injection h1 with h1
  injection h2 with h2 _
  injection h2 with h2
  exact Prod.ext h1 h2
@[simp] theorem fq_0 : fq 0 = (0, 1) := rfl
@[simp] theorem fq_fst {q : Rat} : (fq q).1 = q.num := rfl
@[simp] theorem fq_snd {q : Rat} : (fq q).2 = (q.den : Int) := rfl
end Da
namespace Da
open PySem PySem.Spec L2
section
variable {α β γ : Type}
theorem forR_flat {f : List β → α → Res (List β)} {g : α → List β} {B : Nat} : ∀ {xs : List α} {s : List β}, (∀ x ∈ xs, ∀ s : List β, s.length + (g x).length ≤ B → f s x = .ok (s ++ g x)) → s.length + (xs.flatMap g).length ≤ B → forR f xs s = .ok (s ++ xs.flatMap g)
  | [], s, _, _ => by simp
  | x :: xs, s, h, hB => by
    rw [List.flatMap_cons, List.length_append] at hB
    rw [forR_cons, h x List.mem_cons_self s (by omega)]
    dsimp only [Res.bind_ok]
    rw [forR_flat (fun y hy => h y (List.mem_cons_of_mem _ hy)) (by rw [List.length_append]; omega), List.flatMap_cons, List.append_assoc]
theorem flat_one {g : α → β} : ∀ xs : List α, (xs.flatMap fun x => [g x]) = xs.map g
  | [] => rfl
  | x :: xs => by rw [List.flatMap_cons, flat_one xs]; rfl
/-- one item a turn -/
theorem forR_app {f : List β → α → Res (List β)} {g : α → β} {xs : List α} {s : List β} (h : ∀ x ∈ xs, ∀ s : List β, s.length < 1000000 → f s x = .ok (s ++ [g x])) (hB : s.length + xs.length ≤ 1000000) : forR f xs s = .ok (s ++ xs.map g) := by
  have := forR_flat (f := f) (g := fun x => [g x]) (B := 1000000) (xs := xs) (s := s) (fun x hx s hs => h x hx s (by simp at hs; omega)) (by rw [flat_one, List.length_map]; exact hB)
  rw [this, flat_one]
end
theorem sumQ_nil : sumQ [] = 0 := rfl
theorem foldl_addQ (qs : List Rat) (a : Rat) : qs.foldl (· + ·) a = a + qs.foldl (· + ·) 0 := by
  induction qs generalizing a with
  | nil => show a = a + 0; grind
  | cons q qs ih =>
    rw [List.foldl_cons, List.foldl_cons, ih (a + q), ih (0 + q)]
    grind
theorem sumQ_cons (q : Rat) (qs : List Rat) : sumQ (q :: qs) = q + sumQ qs := by
  unfold sumQ
  rw [List.foldl_cons, foldl_addQ]
  grind
theorem sumQ_append (ps qs : List Rat) : sumQ (ps ++ qs) = sumQ ps + sumQ qs := by
  induction ps with
  | nil => rw [List.nil_append, sumQ_nil]; grind
  | cons p ps ih => rw [List.cons_append, sumQ_cons, sumQ_cons, ih]; grind
theorem sumQ_mul {α : Type} (c : Rat) (f : α → Rat) (xs : List α) : sumQ (xs.map fun x => c * f x) = c * sumQ (xs.map f) := by
  induction xs with
  | nil => show (0 : Rat) = c * 0; grind
  | cons x xs ih => rw [List.map_cons, List.map_cons, sumQ_cons, sumQ_cons, ih]; grind
theorem sumQ_add {α : Type} (f g : α → Rat) (xs : List α) : sumQ (xs.map fun x => f x + g x) = sumQ (xs.map f) + sumQ (xs.map g) := by
  induction xs with
  | nil => show (0 : Rat) = 0 + 0; grind
  | cons x xs ih => rw [List.map_cons, List.map_cons, List.map_cons, sumQ_cons, sumQ_cons, sumQ_cons, ih]; grind
theorem sumQ_zero {α : Type} (xs : List α) : sumQ (xs.map fun _ => (0 : Rat)) = 0 := by
  induction xs with
  | nil => rfl
  | cons x xs ih => rw [List.map_cons, sumQ_cons, ih]; grind
theorem sumQ_const {α : Type} (c : Rat) (xs : List α) : sumQ (xs.map fun _ => c) = (xs.length : Int) * c := by
  induction xs with
  | nil => show (0 : Rat) = ((0 : Int) : Rat) * c; grind
  | cons x xs ih =>
    rw [List.map_cons, sumQ_cons, ih, List.length_cons, Int.natCast_add, Rat.intCast_add]
    grind
theorem sumQ_swap {α β : Type} (f : α → β → Rat) (xs : List α) (ys : List β) : sumQ (xs.map fun x => sumQ (ys.map fun y => f x y)) = sumQ (ys.map fun y => sumQ (xs.map fun x => f x y)) := by
  induction xs with
  | nil => show (0 : Rat) = sumQ (ys.map fun _ => 0); rw [sumQ_zero]
  | cons x xs ih =>
    rw [List.map_cons, sumQ_cons, ih, ← sumQ_add]
    congr 1
    exact List.map_congr_left fun y _ => by rw [List.map_cons, sumQ_cons]
theorem sumQ_perm {ps qs : List Rat} (h : ps.Perm qs) : sumQ ps = sumQ qs := by
  induction h with
  | nil => rfl
  | cons x _ ih => rw [sumQ_cons, sumQ_cons, ih]
  | swap x y l => rw [sumQ_cons, sumQ_cons, sumQ_cons, sumQ_cons]; grind
  | trans _ _ h1 h2 => rw [h1, h2]
/-- the parts of a quotient -/
theorem num_den (q : Rat) {k : Int} : ((q.num : Int) : Rat) / (((q.den : Int) * k : Int) : Rat) = q / (k : Rat) := by
  have h := rat_eq q
  have h1 := den_ne q
  rw [Rat.intCast_mul]
  generalize (q.num : Rat) = a at *
  generalize ((q.den : Int) : Rat) = b at *
  rw [h, Rat.div_def, Rat.div_def, Rat.div_def, Rat.inv_mul_rev]
  grind
theorem In.le {L A B : Nat} {q : Rat} (h : In L A q) (hab : A ≤ B) : In L B q := by
  obtain ⟨n, e, hn⟩ := h
  exact ⟨n, e, Nat.le_trans hn hab⟩
end Da
namespace Kx
open PySem PySem.Spec L2 Da
theorem law_cell (ns : List Int) (k : Int) (hk : 0 ≤ k) (hk2 : k < 1000000) : ∃ c : Int, N_law_cell_fi_i ns k = .ok c := by
  unfold N_law_cell_fi_i
  by_cases h : k < ns.length
  · exact ⟨ns[k.toNat], by simp [h, ixR_of (xs := ns) (x := ns[k.toNat]) hk (List.getElem?_eq_getElem (by omega))]⟩
  · obtain ⟨s, e, h1, h2⟩ := forR_inv (xs := ns) (s := (17 : Int)) (f := fun s x1 => (mulR s 31).bind fun x => Res.ok ((x + x1 % 1000003) % 1000003)) (fun _ s => 0 ≤ s ∧ s < 1000003) ⟨by omega, by omega⟩ fun i x s _ h => by
      refine ⟨_, by rw [mulR_64 (by omega) (by omega)]; rfl, ?_⟩
      omega
    have m1 : 0 ≤ (s + 7) * (k + 3) ∧ (s + 7) * (k + 3) ≤ 1000010 * 1000003 := ⟨Int.mul_nonneg (by omega) (by omega), Int.mul_le_mul (by omega) (by omega) (by omega) (by omega)⟩
    refine ⟨((s + 7) * (k + 3) * 69621) % 2147483647, ?_⟩
    simp only [Res.bind_assoc, Res.bind_ok, Res.bind_ret]
    rw [if_neg (by simpa using h), e]
    simp only [Res.bind_ok]
    rw [mulR_64 (by omega) (by omega)]
    simp only [Res.bind_ok]
    rw [mulR_64 (by omega) (by omega)]
    rfl
theorem law_digits (c : Int) (sizes : List Int) (hp : ∀ s ∈ sizes, 0 < s ∧ s < 18446744073709551616) (hz : sizes.length ≤ 100000) : ∃ row : List Int, N_law_digits_i_li c sizes = .ok row ∧ Digs sizes row := by
  unfold N_law_digits_i_li
  simp only [powR_18, Res.bind_ok, Res.bind_assoc, Res.bind_ret]
  by_cases h : 1000000000000000000 ≤ c
  · rw [if_pos (by simpa using h)]
    obtain ⟨s, e, hd⟩ := forR_inv (xs := sizes) (s := (([] : List Int), c - 1000000000000000000)) (f := fun x5 x4 => (modR x5.2 x4).bind fun x => (appR x5.1 x).bind fun x => (divR x5.2 x4).bind fun x7 => Res.ok (x, x7)) (fun n s => Digs (sizes.take n) s.1) ⟨rfl, fun i s r e => by simp at e⟩ fun i x s hx hd => by
      have hs := hp x (List.mem_of_getElem? hx)
      have hl : s.1.length ≤ 100000 := by have := hd.1; rw [List.length_take] at this; omega
      refine ⟨(s.1 ++ [s.2 % x], s.2 / x), ?_, hd.snoc hx (Int.emod_nonneg _ (by omega)) (Int.emod_lt_of_pos _ hs.1)⟩
      rw [modR_pos hs.1]; dsimp only [Res.bind_ok]; rw [appR_ok (by omega)]; dsimp only [Res.bind_ok]; rw [divR_64 hs.1 hs.2]; rfl
    rw [List.take_length] at hd
    refine ⟨s.1, ?_, hd⟩
    rw [e]; rfl
  · rw [if_neg (by simpa using h), rngR_nat (by omega)]
    dsimp only [Res.bind_ok]
    have hm := Int.emod_nonneg c (show (2147483629 : Int) ≠ 0 by decide)
    have hm2 := Int.emod_lt_of_pos c (show (0 : Int) < 2147483629 by decide)
    obtain ⟨s, e, hd, _, _⟩ := forR_upto (n := sizes.length) (s := (([] : List Int), c % 2147483629)) (f := fun x10 x9 => (mulR x10.2 48271).bind fun x => (mulR 974711 x9).bind fun x_1 => (mulR ((x + x_1 + 12345) % 2147483647) ((x + x_1 + 12345) % 2147483647 / 65537 + 3)).bind fun x_2 => (ixR sizes x9).bind fun x_3 => (modR (x_2 % 2147483629 / 19) x_3).bind fun x_4 => (appR x10.1 x_4).bind fun x_5 => Res.ok (x_5, (x + x_1 + 12345) % 2147483647))
      (fun n s => Digs (sizes.take n) s.1 ∧ 0 ≤ s.2 ∧ s.2 < 2147483647) ⟨⟨rfl, fun i s r e => by simp at e⟩, hm, by omega⟩ fun i s hi hd => by
      obtain ⟨hd, h1, h2⟩ := hd
      have e := List.getElem?_eq_getElem hi
      have hs := hp sizes[i] (List.mem_of_getElem? e)
      have hl : s.1.length ≤ 100000 := by have := hd.1; rw [List.length_take] at this; omega
      generalize hs' : (s.2 * 48271 + 974711 * (i : Int) + 12345) % 2147483647 = s'
      have b1 : 0 ≤ s' := by rw [← hs']; exact Int.emod_nonneg _ (by decide)
      have b2 : s' < 2147483647 := by rw [← hs']; exact Int.emod_lt_of_pos _ (by decide)
      have b3 : 0 ≤ s' / 65537 ∧ s' / 65537 < 40000 := by omega
      refine ⟨(s.1 ++ [s' * (s' / 65537 + 3) % 2147483629 / 19 % sizes[i]], s'), ?_, hd.snoc e (Int.emod_nonneg _ (by omega)) (Int.emod_lt_of_pos _ hs.1), b1, b2⟩
      rw [mulR_64 (by omega) (by omega)]; dsimp only [Res.bind_ok]
      rw [mulR_64 (by omega) (by omega)]; dsimp only [Res.bind_ok]
      rw [hs', mulR_64 (by omega) (by omega)]; dsimp only [Res.bind_ok]
      rw [ixR_nat e]; dsimp only [Res.bind_ok]
      rw [modR_pos hs.1]; dsimp only [Res.bind_ok]
      rw [appR_ok (by omega)]; rfl
    rw [List.take_length] at hd
    refine ⟨s.1, ?_, hd⟩
    rw [e]; rfl
theorem law_gcd {a b : Int} (hz : a.natAbs * b.natAbs < GLim) : N_law_gcd_i_i a b = .ok (Int.gcd a b) := by
  unfold N_law_gcd_i_i
  have ea : (if a < 0 then -a else a) = ((a.natAbs : Nat) : Int) := by split <;> omega
  have eb : (if b < 0 then -b else b) = ((b.natAbs : Nat) : Int) := by split <;> omega
  rw [ea, eb, show (1000000 : Int) = ((1000000 : Nat) : Int) by rfl, rngR_nat (by omega)]
  simp only [Res.bind_assoc, Res.bind_ok, Res.bind_ret]
  obtain ⟨o, e, s, rfl, hs⟩ := forC_upto (σ := Int × Int) (τ := Unit) (n := 1000000) (s := (((a.natAbs : Nat) : Int), ((b.natAbs : Nat) : Int))) (f := fun x1 x2 => (if (decide (x1.2 = 0)) = true then Res.ok (.out (x1.1, x1.2)) else (modR x1.1 x1.2).bind fun x3 => Res.ok (.go (x1.2, x3))))
    (fun o => ∃ s, o = .go s ∧ s.1 = (Int.gcd a b : Int))
    (fun n s => ∃ (x y : Nat), s = ((x : Int), (y : Int)) ∧ Nat.gcd x y = Nat.gcd a.natAbs b.natAbs ∧ (n = 0 ∨ y < x) ∧ x * y * pw2 (n - 1) ≤ a.natAbs * b.natAbs)
    ⟨a.natAbs, b.natAbs, rfl, rfl, .inl rfl, by simp [pw2_0]⟩ (fun i s hi => by
      rintro ⟨x, y, rfl, hg, hl, hb⟩
      by_cases hy : y = 0
      · subst hy
        rw [Nat.gcd_zero_right] at hg
        refine ⟨.out ((x : Int), 0), by simp, ((x : Int), 0), rfl, ?_⟩
        show (x : Int) = _
        rw [hg]; rfl
      · have hy' : ¬ (y : Int) = 0 := by omega
        refine ⟨.go ((y : Int), ((x % y : Nat) : Int)), ?_, y, x % y, rfl, ?_, .inr (Nat.mod_lt x (by omega)), ?_⟩
        · rw [if_neg (by simpa using hy), modR_pos (by show (0 : Int) < (y : Int); omega)]; rfl
        · rw [← hg, Nat.gcd_comm x y, Nat.gcd_rec y x, Nat.gcd_comm]
        · rcases hl with rfl | hl
          · simp [pw2_0] at hb ⊢
            refine Nat.le_trans ?_ hb
            rw [Nat.mul_comm x y]
            exact Nat.mul_le_mul_left y (Nat.mod_le x y)
          · cases i with
            | zero =>
              simp [pw2_0] at hb ⊢
              refine Nat.le_trans ?_ hb
              rw [Nat.mul_comm x y]
              exact Nat.mul_le_mul_left y (Nat.mod_le x y)
            | succ j =>
              have := half_step hl (by omega)
              simp only [Nat.add_sub_cancel] at hb ⊢
              refine Nat.le_trans ?_ hb
              rw [pw2_succ, Nat.mul_comm (pw2 j) 2, ← Nat.mul_assoc]
              exact Nat.mul_le_mul_right _ this) (fun s => by
      rintro ⟨x, y, rfl, hg, hl, hb⟩
      have hxy : y < x := hl.resolve_left (by decide)
      have hy : y = 0 := by
        rcases Nat.eq_zero_or_pos y with h | h
        · exact h
        · exfalso
          have h1 : 1 ≤ x * y := Nat.mul_pos (by omega) h
          have h2 := Nat.mul_le_mul_right (pw2 (1000000 - 1)) h1
          rw [Nat.one_mul] at h2
          exact absurd (Nat.lt_of_le_of_lt (Nat.le_trans h2 hb) hz) (Nat.lt_irrefl _)
      subst hy
      rw [Nat.gcd_zero_right] at hg
      exact ⟨_, rfl, by show (x : Int) = _; rw [hg]; rfl⟩)
  rw [e]
  simp [hs]
theorem law_fraction {t b : Int} (hb : 0 < b) (ht : t.natAbs < Lim) (hb' : b.natAbs < Lim) : N_law_fraction_i_i t b = .ok (fq ((t : Rat) / (b : Rat))) := by
  have hg := law_gcd (glim ht hb')
  have g0 := gcd_pos' (t := t) hb
  have gl := gcd_lim (t := t) hb hb'
  show Nr_law_fraction_i_i 6 t b = _
  unfold Nr_law_fraction_i_i
  rw [if_neg (by simpa using show ¬ b < 0 by omega), hg]
  dsimp only [Res.bind_ok]
  rw [divR_pos g0 gl, divR_pos g0 gl, ← fqc_eq hb]; rfl
theorem ratio_q {t b : Int} (hb : 0 < b) (hb' : b.natAbs < Lim) : N_ratio_i_i t b = .ok (fq ((t : Rat) / (b : Rat))) := by
  have g0 := gcd_pos' (t := t) hb
  have gl := gcd_lim (t := t) hb hb'
  unfold N_ratio_i_i
  rw [if_neg (by simpa using show ¬ b = 0 by omega)]
  dsimp only [Res.bind_ok]
  rw [if_neg (by simpa using show ¬ b < 0 by omega)]
  dsimp only [Res.bind_ok]
  rw [show ((Nat.gcd t.natAbs b.natAbs : Nat) : Int) = (Int.gcd t b : Int) by rfl, divR_pos g0 gl, divR_pos g0 gl, ← fqc_eq hb]; rfl
theorem law_added_q {p q : Rat} (hp : Sm p) (hq : Sm q) : N_law_added_piiq_piiq (fq p) (fq q) = .ok (fq (p + q)) := by
  have h := law_fraction (den_pos p q) (sum_lim hp.1 hq.d hq.1 hp.d) (den_lim hp hq)
  rw [add_eq] at h
  unfold N_law_added_piiq_piiq
  simp only [fq_fst, fq_snd, mulR_44 hp.1 hq.d, mulR_44 hq.1 hp.d, mulR_44 hp.d hq.d, Res.bind_ok, h]
theorem added_q {p q : Rat} (hp : Sm p) (hq : Sm q) : N_added_piiq_piiq (fq p) (fq q) = .ok (fq (p + q)) := by
  have h := ratio_q (t := p.num * (q.den : Int) + q.num * (p.den : Int)) (den_pos p q) (den_lim hp hq)
  rw [add_eq] at h
  unfold N_added_piiq_piiq
  simp only [fq_fst, fq_snd, mulR_44 hp.1 hq.d, mulR_44 hq.1 hp.d, mulR_44 hp.d hq.d, Res.bind_ok, h]
theorem sum_loop' {m : Int × Int → Int × Int → Res (Int × Int)} (hm : ∀ p q : Rat, Sm p → Sm q → m (fq p) (fq q) = .ok (fq (p + q))) {L B : Nat} {qs : List Rat} (h0 : 0 < L) (hL : L < 2 ^ 4400) (hB : (qs.length + 1) * B < 2 ^ 4400) (h : ∀ q ∈ qs, In L B q) :
    forR m (qs.map fq) (0, 1) = .ok (fq (sumQ qs)) := by
  obtain ⟨s, e, rfl⟩ := forR_inv (xs := qs.map fq) (s := ((0, 1) : Int × Int)) (f := m) (fun n s => s = fq (sumQ (qs.take n))) rfl fun i x s hx hs => by
    subst hs
    rw [List.getElem?_map] at hx
    cases e : qs[i]? with
    | none => rw [e] at hx; cases hx
    | some q =>
      rw [e] at hx
      cases hx
      have hi := (List.getElem?_eq_some_iff.mp e).1
      have hq := h q (List.mem_of_getElem? e)
      have b1 : i * B < 2 ^ 4400 := Nat.lt_of_le_of_lt (Nat.mul_le_mul_right B (by omega)) hB
      have b2 : B < 2 ^ 4400 := Nat.lt_of_le_of_lt (Nat.le_mul_of_pos_left B (by omega)) hB
      refine ⟨_, hm _ _ ((In.sum h i).sm h0 hL b1) (hq.sm h0 hL b2), ?_⟩
      rw [List.take_add_one, e, Option.toList_some, sumQ_snoc]
  rw [e, List.length_map, List.take_length]
theorem law_sum_q {L B : Nat} {qs : List Rat} (h0 : 0 < L) (hL : L < 2 ^ 4400) (hB : (qs.length + 1) * B < 2 ^ 4400) (h : ∀ q ∈ qs, In L B q) : N_law_sum_lpiiq (qs.map fq) = .ok (fq (sumQ qs)) := by
  unfold N_law_sum_lpiiq
  simp only [Res.bind_ret]
  exact sum_loop' (fun p q hp hq => law_added_q hp hq) h0 hL hB h
theorem fraction_sum_q {L B : Nat} {qs : List Rat} (h0 : 0 < L) (hL : L < 2 ^ 4400) (hB : (qs.length + 1) * B < 2 ^ 4400) (h : ∀ q ∈ qs, In L B q) : N_fraction_sum_lpiiq (qs.map fq) = .ok (fq (sumQ qs)) := by
  unfold N_fraction_sum_lpiiq
  simp only [Res.bind_ret]
  exact sum_loop' (fun p q hp hq => added_q hp hq) h0 hL hB h
theorem fraction_sumT_q {L B : Nat} {qs : List Rat} (h0 : 0 < L) (hL : L < 2 ^ 4400) (hB : (qs.length + 1) * B < 2 ^ 4400) (h : ∀ q ∈ qs, In L B q) : N_fraction_sum_tpiiq (qs.map fq) = .ok (fq (sumQ qs)) := by
  unfold N_fraction_sum_tpiiq
  simp only [Res.bind_ret]
  exact sum_loop' (fun p q hp hq => added_q hp hq) h0 hL hB h
theorem law_same_i {a b : Int} : N_law_same_i_i a b = .ok (decide (a = b)) := rfl
theorem law_same_pii {a b : Int × Int} : N_law_same_piiq_piiq a b = .ok (decide (a = b)) := by
  obtain ⟨a1, a2⟩ := a
  obtain ⟨b1, b2⟩ := b
  unfold N_law_same_piiq_piiq
  rw [if_neg (by decide), show (2 : Int) = ((2 : Nat) : Int) by rfl, rngR_nat (by omega), show upto 2 = [((0 : Nat) : Int), ((1 : Nat) : Int)] by rfl]
  simp only [Res.bind_ok, forC_cons, Res.bind_assoc]
  rw [ixR_nat (x := a1) (by rfl), ixR_nat (x := b1) (by rfl), ixR_nat (x := a2) (by rfl), ixR_nat (x := b2) (by rfl)]
  simp only [Res.bind_ok, law_same_i]
  by_cases h1 : a1 = b1 <;> by_cases h2 : a2 = b2 <;> simp [h1, h2]
theorem take_out' {L : List Int} {k : Nat} (hk : k < L.length) : (L[k] :: L.eraseIdx k).Perm L := by
  rw [List.eraseIdx_eq_take_drop_succ]
  have h := (List.perm_middle (a := L[k]) (l₁ := L.take k) (l₂ := L.drop (k + 1))).symm
  refine h.trans (List.Perm.of_eq ?_)
  rw [← List.drop_eq_getElem_cons hk, List.take_append_drop]
end Kx
namespace Kx
open PySem PySem.Spec L2 Da
/-- a square of numbers as rows of pairs -/
def qm (M : List (List Rat)) : List (List (Int × Int)) := M.map fun r => r.map fq
structure Sq (M : List (List Rat)) (n : Nat) : Prop where
  len : M.length = n
  row : ∀ r ∈ M, r.length = n
def at2 (M : List (List Rat)) (u v : Nat) : Rat := (M.getD u []).getD v 0
theorem qm_len {M : List (List Rat)} : (qm M).length = M.length := List.length_map _
theorem qm_row {M : List (List Rat)} {n u : Nat} (h : Sq M n) (hu : u < n) : (qm M)[u]? = some ((M.getD u []).map fq) := by
  unfold qm
  have e := List.getElem?_eq_getElem (l := M) (i := u) (by rw [h.len]; exact hu)
  rw [List.getElem?_map, e, List.getD_eq_getElem?_getD, e]
  rfl
theorem row_len {M : List (List Rat)} {n u : Nat} (h : Sq M n) (hu : u < n) : (M.getD u []).length = n := by
  have e := List.getElem?_eq_getElem (l := M) (i := u) (by rw [h.len]; exact hu)
  rw [List.getD_eq_getElem?_getD, e]
  exact h.row _ (List.getElem_mem _)
theorem qm_item {M : List (List Rat)} {n u v : Nat} (h : Sq M n) (hu : u < n) (hv : v < n) : ((M.getD u []).map fq)[v]? = some (fq (at2 M u v)) := by
  have e := List.getElem?_eq_getElem (l := M.getD u []) (i := v) (by rw [row_len h hu]; exact hv)
  rw [List.getElem?_map, e]
  unfold at2
  rw [List.getD_eq_getElem?_getD (l := M.getD u []), e]
  rfl
theorem ix2 {M : List (List Rat)} {n : Nat} {u v : Int} (h : Sq M n) (u0 : 0 ≤ u) (hu : u < n) (v0 : 0 ≤ v) (hv : v < n) : ((ixR (qm M) u).bind fun x => ixR x v) = .ok (fq (at2 M u.toNat v.toNat)) := by
  rw [ixR_of u0 (qm_row h (by omega))]
  exact ixR_of v0 (qm_item h (by omega) (by omega))
theorem frozen_p (p : Int × Int) : N_frozen_piiq p = .ok p := rfl
theorem frozen_lp (r : List (Int × Int)) (h : r.length ≤ 1000000) : N_frozen_lpiiq r = .ok r := by
  unfold N_frozen_lpiiq
  rw [Res.bind_ret, lcR_map (g := fun x => x) h (fun x _ => frozen_p x), List.map_id']
theorem frozen_llp (r : List (List (Int × Int))) (h : r.length ≤ 1000000) (h2 : ∀ x ∈ r, x.length ≤ 1000000) : N_frozen_llpiiq r = .ok r := by
  unfold N_frozen_llpiiq
  rw [Res.bind_ret, lcR_map (g := fun x => x) h (fun x hx => frozen_lp x (h2 x hx)), List.map_id']
theorem checked_rows {r : List (List (Int × Int))} {n : Nat} (hl : r.length = n) (h : ∀ x ∈ r, x.length = n) (hn : n ≤ 1000000) : N_checked_rows_ttpiiq r = .ok r := by
  unfold N_checked_rows_ttpiiq
  obtain ⟨s, e, _⟩ := forR_inv (xs := enumI 0 r) (s := ()) (f := fun (x1 : Unit) (x2 : Int × List (Int × Int)) => (if (!decide ((x2.2.length : Int) = (r.length : Int))) = true then (.ex "BadTable" [("index", D.int x2.1)] : Res Unit) else Res.ok ())) (fun _ _ => True) trivial fun i x s hx _ => by
    have := h x.2 (List.mem_of_getElem? (enumI_at hx).2)
    exact ⟨(), by simp [this, hl], trivial⟩
  rw [e]
  dsimp only [Res.bind_ok]
  simp only [Res.bind_ret]
  rw [lcR_map (g := fun x => x) (by omega) (fun x hx => ?_), List.map_id']
  refine (lcR_map (f := fun x5 => N_as_fraction_piiq x5) (g := fun x => x) (by have := h x hx; omega) (fun y _ => rfl)).trans (by rw [List.map_id'])
theorem table_init {r : List (List (Int × Int))} {n : Nat} (hl : r.length = n) (h : ∀ x ∈ r, x.length = n) (hn : n ≤ 1000000) : N_Table_init_llpiiq r = .ok (r, (n : Int)) := by
  unfold N_Table_init_llpiiq
  rw [frozen_llp r (by omega) (fun x hx => by have := h x hx; omega)]
  dsimp only [Res.bind_ok]
  rw [checked_rows hl h hn]
  dsimp only [Res.bind_ok]
  rw [hl]
theorem table_qm {M : List (List Rat)} {n : Nat} (h : Sq M n) (hn : n ≤ 1000000) : N_Table_init_llpiiq (qm M) = .ok (qm M, (n : Int)) :=
  table_init (by rw [qm_len, h.len]) (fun x hx => by
    obtain ⟨r, hr, rfl⟩ := List.mem_map.mp hx
    rw [List.length_map]
    exact h.row r hr) hn
/-- the items of a day -/
def dayIt (M : List (List Rat)) (day : List Int) : List Rat := (enumI 0 day).map fun p => at2 M p.1.toNat p.2.toNat
def daySum (M : List (List Rat)) (day : List Int) : Rat := sumQ (dayIt M day)
structure Day (n : Nat) (day : List Int) : Prop where
  len : day.length = n
  mem : ∀ x ∈ day, 0 ≤ x ∧ x < n
theorem perm_day {n : Nat} {p : List Int} (h : p.Perm (upto n)) : Day n p := ⟨by rw [h.length_eq, upto_length], fun x hx => mem_upto.mp (h.mem_iff.mp hx)⟩
/-- all items over L, bounded -/
def AllIn (L B : Nat) (M : List (List Rat)) : Prop := ∀ r ∈ M, ∀ q ∈ r, In L B q
theorem at_in {L B : Nat} {M : List (List Rat)} {n u v : Nat} (h : Sq M n) (hI : AllIn L B M) (hu : u < n) (hv : v < n) : In L B (at2 M u v) := by
  have e := List.getElem?_eq_getElem (l := M) (i := u) (by rw [h.len]; exact hu)
  have e1 : M.getD u [] = M[u]'(by rw [h.len]; exact hu) := by rw [List.getD_eq_getElem?_getD, e]; rfl
  have hl := row_len h hu
  have e2 := List.getElem?_eq_getElem (l := M.getD u []) (i := v) (by omega)
  unfold at2
  rw [List.getD_eq_getElem?_getD (l := M.getD u []), e2]
  exact hI (M.getD u []) (by rw [e1]; exact List.getElem_mem _) _ (List.getElem_mem _)
theorem dayIt_len {M : List (List Rat)} {day : List Int} : (dayIt M day).length = day.length := by unfold dayIt; rw [List.length_map, enumI_length]
theorem dayIt_in {L B : Nat} {M : List (List Rat)} {n : Nat} {day : List Int} (h : Sq M n) (hI : AllIn L B M) (hd : Day n day) : ∀ q ∈ dayIt M day, In L B q := by
  intro q hq
  obtain ⟨p, hp, rfl⟩ := List.mem_map.mp hq
  obtain ⟨j, hj⟩ := List.mem_iff_getElem?.mp hp
  obtain ⟨e1, e2⟩ := enumI_at hj
  have hj' : j < n := by rw [← hd.len]; exact (List.getElem?_eq_some_iff.mp e2).1
  have := hd.mem _ (List.mem_of_getElem? e2)
  rw [e1]
  exact at_in h hI (by simpa using hj') (by omega)
theorem day_items {M : List (List Rat)} {n : Nat} {day : List Int} (h : Sq M n) (hd : Day n day) (hn : n ≤ 1000000) : lcR (enumI 0 day) (fun x1 => Res.ok true) (fun x1 => ((ixR (qm M) x1.1).bind fun x2 => ixR x2 x1.2)) = .ok ((dayIt M day).map fq) := by
  rw [lcR_map (g := fun p => fq (at2 M p.1.toNat p.2.toNat)) (by rw [enumI_length, hd.len]; exact hn) (fun p hp => ?_)]
  · unfold dayIt
    rw [List.map_map]
    rfl
  · obtain ⟨j, hj⟩ := List.mem_iff_getElem?.mp hp
    obtain ⟨e1, e2⟩ := enumI_at hj
    have hj' : j < n := by rw [← hd.len]; exact (List.getElem?_eq_some_iff.mp e2).1
    have := hd.mem _ (List.mem_of_getElem? e2)
    exact ix2 h (by omega) (by omega) this.1 this.2
theorem day_sumT {L B : Nat} {M : List (List Rat)} {n : Nat} {day : List Int} (h : Sq M n) (hI : AllIn L B M) (hd : Day n day) (hn : n ≤ 1000000) (h0 : 0 < L) (hL : L < 2 ^ 4400) (hB : (n + 1) * B < 2 ^ 4400) : N_day_sum_cTablettpiiqiq_ti (qm M, (n : Int)) day = .ok (fq (daySum M day)) := by
  unfold N_day_sum_cTablettpiiqiq_ti
  dsimp only
  rw [day_items h hd hn]
  exact fraction_sum_q h0 hL (by rw [dayIt_len, hd.len]; exact hB) (dayIt_in h hI hd)
def total (M : List (List Rat)) : Rat := sumQ (M.map sumQ)
theorem row_sums_in {L B : Nat} {M : List (List Rat)} {n : Nat} (h : Sq M n) (hI : AllIn L B M) : ∀ q ∈ M.map sumQ, In L (n * B) q := by
  intro q hq
  obtain ⟨r, hr, rfl⟩ := List.mem_map.mp hq
  have := In.sum (hI r hr) n
  rwa [List.take_of_length_le (by rw [h.row r hr]; exact Nat.le_refl _)] at this
theorem line_sums {L B : Nat} {M : List (List Rat)} {n : Nat} (h : Sq M n) (hI : AllIn L B M) (hn : n ≤ 1000000) (h0 : 0 < L) (hL : L < 2 ^ 4400) (hB : (n + 1) * B < 2 ^ 4400) : N_line_sums_ttpiiq (qm M) = .ok ((M.map sumQ).map fq) := by
  unfold N_line_sums_ttpiiq
  rw [Res.bind_ret]
  unfold lcR qm
  rw [if_pos (szOk_yes (by rw [List.length_map, h.len]; exact hn))]
  have : ∀ N : List (List Rat), (∀ r ∈ N, r ∈ M) → lcR.go (fun x1 => Res.ok true) (fun x1 => N_fraction_sum_tpiiq x1) (N.map fun r => r.map fq) = .ok ((N.map sumQ).map fq) := by
    intro N
    induction N with
    | nil => intro _; rfl
    | cons r N ih =>
      intro hs
      have hr := hs r List.mem_cons_self
      rw [List.map_cons]
      unfold lcR.go
      rw [fraction_sumT_q h0 hL (by rw [h.row r hr]; exact hB) (hI r hr), ih fun x hx => hs x (List.mem_cons_of_mem _ hx)]
      rfl
  exact this M fun _ h => h
theorem mean_day {L B : Nat} {M : List (List Rat)} {n : Nat} (h : Sq M n) (hI : AllIn L B M) (n0 : 0 < n) (hn : n ≤ 1000000) (h0 : 0 < L) (hL : L < 2 ^ 4400) (hB : (n + 1) * ((n + 1) * B) < 2 ^ 4400) : N_Table_mean_day_cTablettpiiqiq (qm M, (n : Int)) = .ok (fq (total M / ((n : Int) : Rat))) := by
  unfold N_Table_mean_day_cTablettpiiqiq
  have hB1 : (n + 1) * B < 2 ^ 4400 := Nat.lt_of_le_of_lt (Nat.le_mul_of_pos_left _ (by omega)) hB
  have hB2 : (n + 1) * (n * B) < 2 ^ 4400 := Nat.lt_of_le_of_lt (Nat.mul_le_mul_left _ (Nat.mul_le_mul_right B (by omega))) hB
  have hs := row_sums_in h hI
  dsimp only
  rw [line_sums h hI hn h0 hL hB1]
  dsimp only [Res.bind_ok]
  rw [fraction_sumT_q h0 hL (by rw [List.length_map, h.len]; exact hB2) hs]
  dsimp only [Res.bind_ok, fq_fst, fq_snd]
  have hT : Sm (sumQ (M.map sumQ)) := by
    have := In.sum hs n
    rw [List.take_of_length_le (by rw [List.length_map, h.len]; exact Nat.le_refl _)] at this
    exact this.sm h0 hL (Nat.lt_of_le_of_lt (Nat.mul_le_mul_right _ (by omega)) hB2)
  rw [qm_len, h.len, mulR_44 hT.d (by rw [Int.natAbs_natCast]; exact Nat.lt_of_le_of_lt hn (Nat.lt_of_lt_of_le (show 1000000 < 2 ^ 20 by decide) (Nat.pow_le_pow_right (by decide) (by decide))))]
  dsimp only [Res.bind_ok]
  have hp : 0 < ((sumQ (M.map sumQ)).den : Int) * (n : Int) := Int.mul_pos (by have := (sumQ (M.map sumQ)).den_pos; omega) (by omega)
  rw [ratio_q hp, num_den]
  · rfl
  · rw [Int.natAbs_mul, Int.natAbs_natCast, Int.natAbs_natCast]
    refine Nat.lt_of_lt_of_le (mul_lim hT.2 (Nat.lt_of_le_of_lt hn (Nat.lt_of_lt_of_le (show 1000000 < 2 ^ 20 by decide) (Nat.pow_le_pow_right (by decide) (by decide))))) ?_
    unfold Lim
    exact Nat.pow_le_pow_right (by decide) (by decide)
theorem daySum_eq {M : List (List Rat)} {n : Nat} {d : List Int} (hd : Day n d) : daySum M d = sumQ ((List.range n).map fun u => at2 M u (d.getD u 0).toNat) := by
  unfold daySum dayIt
  rw [enumI_eq, List.map_map, ← hd.len]
  congr 1
  refine List.ext_getElem? fun i => ?_
  rw [List.getElem?_map, List.getElem?_map, List.getElem?_zipIdx]
  by_cases hi : i < d.length
  · rw [List.getElem?_range hi, List.getElem?_eq_getElem hi]
    simp [List.getD_eq_getElem?_getD, List.getElem?_eq_getElem hi]
  · rw [List.getElem?_eq_none (by omega), List.getElem?_eq_none (by rw [List.length_range]; omega)]
    rfl
end Kx
namespace Kx
open PySem PySem.Spec L2 Da
open PySem PySem.Spec L2 Da
theorem small44 {a : Nat} (h : a < 18446744073709551616) : a < 2 ^ 4400 := Nat.lt_of_lt_of_le (show a < 2 ^ 64 from h) (Nat.pow_le_pow_right (by decide) (by decide))
theorem ixR_mem {α : Type} {xs : List α} {i : Int} (h0 : 0 ≤ i) (h : i < xs.length) : ∃ t, ixR xs i = .ok t ∧ t ∈ xs := ⟨xs[i.toNat]'(by omega), ixR_of h0 (List.getElem?_eq_getElem (by omega)), List.getElem_mem _⟩
end Kx
namespace Da
theorem Digs.get {sizes row : List Int} (h : Digs sizes row) {i : Nat} {s : Int} (hs : sizes[i]? = some s) : ∃ r, row[i]? = some r ∧ 0 ≤ r ∧ r < s := by
  have hi := (List.getElem?_eq_some_iff.mp hs).1
  have hi' : i < row.length := by rw [h.1]; exact hi
  exact ⟨row[i], List.getElem?_eq_getElem hi', h.2 i s _ hs (List.getElem?_eq_getElem hi')⟩
theorem Digs.ix {sizes row : List Int} (h : Digs sizes row) {i : Nat} {s : Int} (hs : sizes[i]? = some s) : ∃ r, ixR row (i : Int) = .ok r ∧ 0 ≤ r ∧ r < s := by
  obtain ⟨r, e, h⟩ := h.get hs
  exact ⟨r, ixR_nat e, h⟩
end Da
namespace Kx
open PySem PySem.Spec L2 Da
/-- digits of a drawn table -/
def tabSizes : List Int := [7] ++ (List.replicate 25 [40, 9]).flatten
theorem tabSizes_ok : ∀ k, k < 25 → tabSizes[1 + 2 * k]? = some 40 ∧ tabSizes[2 + 2 * k]? = some 9 := by decide +kernel
theorem in60 {t b : Int} (ht : t.natAbs ≤ 40) (hb : b = 1 ∨ b = 2 ∨ b = 3 ∨ b = 4 ∨ b = 5 ∨ b = 6) : In 60 3000 ((t : Rat) / (b : Rat)) := by
  rcases hb with rfl | rfl | rfl | rfl | rfl | rfl
  · exact (In.of 60 (by decide) (by decide) (by decide)).le (by omega)
  · exact (In.of 30 (by decide) (by decide) (by decide)).le (by omega)
  · exact (In.of 20 (by decide) (by decide) (by decide)).le (by omega)
  · exact (In.of 15 (by decide) (by decide) (by decide)).le (by omega)
  · exact (In.of 12 (by decide) (by decide) (by decide)).le (by omega)
  · exact (In.of 10 (by decide) (by decide) (by decide)).le (by omega)
theorem table_rows {n : Nat} {row : List Int} (hn : n ≤ 5) (hd : Digs tabSizes row) : ∃ M, N_law_table_rows_i_li n row = .ok (qm M) ∧ Sq M n ∧ AllIn 60 3000 M := by
  unfold N_law_table_rows_i_li
  rw [rngR_nat (by omega)]
  simp only [Res.bind_ok, Res.bind_ret, Res.bind_assoc]
  obtain ⟨s, e, M, rfl, hl, hr⟩ := forR_upto (n := n) (s := ([] : List (List (Int × Int)))) (f := fun x1 x2 => (forR (fun x3 x4 => (mulR (n : Int) x2).bind fun x => (mulR 2 (x + x4)).bind fun x => (ixR row (1 + x)).bind fun x_1 => (ixR row (1 + x)).bind fun x_2 => (ixR row (1 + x)).bind fun x_3 => (ixR row (1 + x)).bind fun x_4 => (ixR row (1 + x)).bind fun x_5 => (ixR row (1 + x)).bind fun x_6 => (ixR row (1 + x)).bind fun x_7 => (ixR row 0).bind fun x_8 => (ixR [x_1 - 12, x_2 % 3, x_3 % 2, x_4 - 12, x_5 / 5, x_6 - 20, x_7] x_8).bind fun x_9 => (ixR row (1 + x + 1)).bind fun x => (ixR [1, 1, 1, 2, 3, 4, 6, 1, 5] x).bind fun x => (N_law_fraction_i_i x_9 x).bind fun x => appR x3 x) (upto n) []).bind fun x => appR x1 x)
    (fun i s => ∃ M : List (List Rat), s = qm M ∧ M.length = i ∧ ∀ r ∈ M, r.length = n ∧ ∀ q ∈ r, In 60 3000 q) ⟨[], rfl, rfl, fun r h => nomatch h⟩ fun i s hi => by
    rintro ⟨M, rfl, hl, hr⟩
    obtain ⟨t, e, R, rfl, hRl, hR⟩ := forR_upto (n := n) (s := ([] : List (Int × Int))) (f := fun x3 x4 => (mulR (n : Int) (i : Int)).bind fun x => (mulR 2 (x + x4)).bind fun x => (ixR row (1 + x)).bind fun x_1 => (ixR row (1 + x)).bind fun x_2 => (ixR row (1 + x)).bind fun x_3 => (ixR row (1 + x)).bind fun x_4 => (ixR row (1 + x)).bind fun x_5 => (ixR row (1 + x)).bind fun x_6 => (ixR row (1 + x)).bind fun x_7 => (ixR row 0).bind fun x_8 => (ixR [x_1 - 12, x_2 % 3, x_3 % 2, x_4 - 12, x_5 / 5, x_6 - 20, x_7] x_8).bind fun x_9 => (ixR row (1 + x + 1)).bind fun x => (ixR [1, 1, 1, 2, 3, 4, 6, 1, 5] x).bind fun x => (N_law_fraction_i_i x_9 x).bind fun x => appR x3 x)
      (fun j t => ∃ R : List Rat, t = R.map fq ∧ R.length = j ∧ ∀ q ∈ R, In 60 3000 q) ⟨[], rfl, rfl, fun r h => nomatch h⟩ fun j t hj => by
      rintro ⟨R, rfl, hRl, hR⟩
      have hk : n * i + j < 25 := by
        have : n * i ≤ n * (n - 1) := Nat.mul_le_mul_left n (by omega)
        have : n * (n - 1) + n ≤ 25 := by
          rcases (show n = 0 ∨ n = 1 ∨ n = 2 ∨ n = 3 ∨ n = 4 ∨ n = 5 by omega) with rfl | rfl | rfl | rfl | rfl | rfl <;> decide
        omega
      obtain ⟨k1, k2⟩ := tabSizes_ok _ hk
      obtain ⟨a, ea, a0, a1⟩ := hd.ix k1
      obtain ⟨b, eb, b0, b1⟩ := hd.ix k2
      obtain ⟨z, ez, z0, z1⟩ := hd.ix (show tabSizes[0]? = some 7 by rfl)
      have hni : (n : Int) * (i : Int) = ((n * i : Nat) : Int) := by rw [Int.natCast_mul]
      rw [mulR_64 (by omega) (by omega), hni]; dsimp only [Res.bind_ok]
      rw [mulR_64 (by omega) (by omega)]; dsimp only [Res.bind_ok]
      rw [show (1 + 2 * (((n * i : Nat) : Int) + (j : Int))) = ((1 + 2 * (n * i + j) : Nat) : Int) by omega, show (((1 + 2 * (n * i + j) : Nat) : Int) + 1) = ((2 + 2 * (n * i + j) : Nat) : Int) by omega, ea]; dsimp only [Res.bind_ok]
      rw [show (0 : Int) = ((0 : Nat) : Int) by rfl, ez]; dsimp only [Res.bind_ok]
      obtain ⟨t, et, ht⟩ := ixR_mem (xs := [a - 12, a % 3, a % 2, a - 12, a / 5, a - 20, a]) z0 (by simpa using z1)
      rw [et]; dsimp only [Res.bind_ok]
      rw [eb]; dsimp only [Res.bind_ok]
      obtain ⟨w, ew, hw⟩ := ixR_mem (xs := [1, 1, 1, 2, 3, 4, 6, 1, (5 : Int)]) b0 (by simpa using b1)
      rw [ew]; dsimp only [Res.bind_ok]
      have hw' : w = 1 ∨ w = 2 ∨ w = 3 ∨ w = 4 ∨ w = 5 ∨ w = 6 := by
        simp only [List.mem_cons, List.not_mem_nil, or_false] at hw
        omega
      have ht' : t.natAbs ≤ 40 := by
        simp only [List.mem_cons, List.not_mem_nil, or_false] at ht
        omega
      rw [law_fraction (by omega) (lt_lim (by omega)) (lt_lim (by omega))]; dsimp only [Res.bind_ok]
      rw [appR_ok (by rw [List.length_map]; omega)]
      refine ⟨_, rfl, R ++ [(t : Rat) / (w : Rat)], by rw [List.map_append]; rfl, by rw [List.length_append, hRl]; rfl, fun q hq => ?_⟩
      rcases List.mem_append.mp hq with h | h
      · exact hR q h
      · rw [List.mem_singleton.mp h]
        exact in60 ht' hw'
    rw [e]; dsimp only [Res.bind_ok]
    rw [appR_ok (by rw [qm_len]; omega)]
    refine ⟨_, rfl, M ++ [R], by unfold qm; rw [List.map_append]; rfl, by rw [List.length_append, hl]; rfl, fun r h => ?_⟩
    rcases List.mem_append.mp h with h | h
    · exact hr r h
    · rw [List.mem_singleton.mp h]
      exact ⟨hRl, hR⟩
  exact ⟨M, e, ⟨hl, fun r h => (hr r h).1⟩, fun r h => (hr r h).2⟩
end Kx
namespace Da
open PySem PySem.Spec L2
def Tr {α : Type} (r : Res α) (Q : α → Prop) : Prop := ∃ v, r = .ok v ∧ Q v
section
variable {α β γ σ τ : Type} {r : Res α} {Q : α → Prop} {f : α → Res β} {v : α} {R : β → Prop}
theorem Tr.of (h : r = .ok v) (q : Q v) : Tr r Q := ⟨v, h, q⟩
theorem Tr.eq {r : Res α} {v : α} (h : Tr r fun x => x = v) : r = .ok v := by obtain ⟨x, e, rfl⟩ := h; exact e
theorem Tr.ok (q : Q v) : Tr (.ok v) Q := ⟨v, rfl, q⟩
theorem Tr.imp {Q' : α → Prop} (h : Tr r Q) (k : ∀ v, Q v → Q' v) : Tr r Q' := by obtain ⟨v, e, q⟩ := h; exact ⟨v, e, k v q⟩
theorem Tr.bind (h : Tr r Q) (k : ∀ v, Q v → Tr (f v) R) : Tr (r.bind f) R := by
  obtain ⟨v, e, q⟩ := h
  rw [e]
  exact k v q
/-- a step whose outcome is known -/
theorem Tr.st (h : r = .ok v) (k : Tr (f v) R) : Tr (r.bind f) R := by rw [h]; exact k
theorem Tr.nx (h : Tr r Q) : Tr (nx r) Q := by obtain ⟨v, e, q⟩ := h; rw [e]; exact ⟨v, rfl, q⟩
theorem Tr.ite {b : Bool} {r1 r2 : Res α} (h1 : b = true → Tr r1 Q) (h2 : b = false → Tr r2 Q) : Tr (if b = true then r1 else r2) Q := by
  cases b with
  | true => exact h1 rfl
  | false => exact h2 rfl
theorem Tr.itT {b : Bool} {r1 r2 : Res α} (hb : b = true) (h1 : Tr r1 Q) : Tr (if b = true then r1 else r2) Q := by rw [if_pos hb]; exact h1
theorem Tr.itF {b : Bool} {r1 r2 : Res α} (hb : b = false) (h1 : Tr r2 Q) : Tr (if b = true then r1 else r2) Q := by rw [if_neg (by rw [hb]; exact Bool.false_ne_true)]; exact h1
theorem tr_forRn {f : σ → Int → Res σ} {n : Nat} {s : σ} {Q : σ → Prop} (P : Nat → σ → Prop) (h0 : P 0 s) (hs : ∀ (i : Nat) s, i < n → P i s → Tr (f s (i : Int)) (P (i + 1))) (hd : ∀ s, P n s → Q s) : Tr (forR f (upto n) s) Q := by
  obtain ⟨s', e, p⟩ := forR_upto P h0 fun i s hi p => hs i s hi p
  exact ⟨s', e, hd s' p⟩
/-- a search, and what comes behind it -/
theorem tr_find {f : Unit → α → Res (Ctl Unit τ)} {xs : List α} {k : Unit → Res γ} {rk : τ → γ} {Q : γ → Prop} (P : α → Prop) (R : τ → Prop) (h : ∀ x ∈ xs, Tr (f () x) fun o => (o = .go () ∧ P x) ∨ ∃ b, o = .ret b ∧ R b)
    (h1 : (∀ x ∈ xs, P x) → Tr (k ()) Q) (h2 : ∀ b, R b → Q (rk b)) : Tr ((forC f xs ()).bind (ctlK k rk)) Q := by
  induction xs with
  | nil => exact h1 fun x hx => nomatch hx
  | cons x xs ih =>
    rw [forC_cons, Res.bind_assoc]
    obtain ⟨o, e, p⟩ := h x List.mem_cons_self
    rw [e]
    rcases p with ⟨rfl, p⟩ | ⟨b, rfl, r⟩
    · exact ih (fun y hy => h y (List.mem_cons_of_mem _ hy)) fun hp => h1 fun y hy => by
        rcases List.mem_cons.mp hy with rfl | hy
        · exact p
        · exact hp y hy
    · exact ⟨_, rfl, h2 b r⟩
/-- all turns go on -/
theorem tr_all {f : Unit → α → Res (Ctl Unit τ)} {xs : List α} {k : Unit → Res γ} {rk : τ → γ} {Q : γ → Prop} (h : ∀ x ∈ xs, Tr (f () x) fun o => o = .go ()) (h1 : Tr (k ()) Q) : Tr ((forC f xs ()).bind (ctlK k rk)) Q :=
  tr_find (fun _ => True) (fun _ => False) (fun x hx => (h x hx).imp fun o e => .inl ⟨e, trivial⟩) (fun _ => h1) fun b h => h.elim
/-- a loop that appends one item a turn -/
theorem tr_app {f : List β → α → Res (List β)} {xs : List α} (g : α → β) (hz : xs.length ≤ 1000000) (h : ∀ x ∈ xs, ∀ s : List β, s.length < 1000000 → Tr (f s x) fun y => y = s ++ [g x]) {Q : List β → Prop} (hq : Q (xs.map g)) : Tr (forR f xs []) Q := ⟨_, (forR_app (g := g) (s := []) (fun x hx s hs => (h x hx s hs).eq) (by rw [List.length_nil, Nat.zero_add]; exact hz)), by rw [List.nil_append]; exact hq⟩
theorem lcR_mapp {f : α → Res β} {k : γ → α} {xs : List γ} (g : γ → β) (hz : xs.length ≤ 1000000) (h : ∀ x ∈ xs, f (k x) = .ok (g x)) : lcR (xs.map k) (fun _ => .ok true) f = .ok (xs.map g) := by
  unfold lcR
  rw [if_pos (szOk_yes (by rw [List.length_map]; exact hz))]
  clear hz
  induction xs with
  | nil => rfl
  | cons x xs ih =>
    rw [List.map_cons]
    unfold lcR.go
    rw [h x List.mem_cons_self, ih fun y hy => h y (List.mem_cons_of_mem _ hy)]
    rfl
theorem tr_lcm {f : α → Res β} {xs : List α} {Q : List β → Prop} (P : α → β → Prop) (hz : xs.length ≤ 1000000) (h : ∀ x ∈ xs, Tr (f x) (P x)) (hq : ∀ ys : List β, ys.length = xs.length → (∀ (i : Nat) x, xs[i]? = some x → ∃ y, ys[i]? = some y ∧ P x y) → Q ys) : Tr (lcR xs (fun _ => .ok true) f) Q := by
  obtain ⟨ys, e, hl, hp⟩ := lcR_mapM P hz h
  exact ⟨ys, e, hq ys hl hp⟩
end
end Da
namespace Da
open PySem PySem.Spec L2
theorem natCast_ne {L : Nat} (h : 0 < L) : ((L : Int) : Rat) ≠ 0 := by
  intro q
  have : (L : Int) = 0 := by exact_mod_cast q
  omega
theorem In.mul {L M A B : Nat} {p q : Rat} (h : In L A p) (k : In M B q) (hL : 0 < L) (hM : 0 < M) : In (L * M) (A * B) (p * q) := by
  obtain ⟨n, e, hn⟩ := h
  obtain ⟨m, f, hm⟩ := k
  refine ⟨n * m, ?_, by rw [Int.natAbs_mul]; exact Nat.mul_le_mul hn hm⟩
  have h1 := natCast_ne hL
  have h2 := natCast_ne hM
  rw [e, f, Int.natCast_mul, Rat.intCast_mul, Rat.intCast_mul]
  generalize ((L : Int) : Rat) = a at *
  generalize ((M : Int) : Rat) = b at *
  generalize (n : Rat) = c
  generalize (m : Rat) = d
  grind
theorem In.neg {L B : Nat} {q : Rat} (h : In L B q) : In L B (-q) := by
  obtain ⟨n, e, hn⟩ := h
  refine ⟨-n, ?_, by rw [Int.natAbs_neg]; exact hn⟩
  rw [e, Rat.intCast_neg]
  grind
theorem In.sub {L A B : Nat} {p q : Rat} (h : In L A p) (k : In L B q) : In L (A + B) (p - q) := by
  have := h.add k.neg
  rwa [show p + -q = p - q by grind] at this
theorem In.div {L B : Nat} {q : Rat} (h : In L B q) (m : Nat) (hL : 0 < L) (hm : 0 < m) : In (L * m) B (q / ((m : Int) : Rat)) := by
  obtain ⟨n, e, hn⟩ := h
  refine ⟨n, ?_, hn⟩
  have h1 := natCast_ne hL
  have h2 := natCast_ne hm
  rw [e, Int.natCast_mul, Rat.intCast_mul]
  generalize ((L : Int) : Rat) = a at *
  generalize ((m : Int) : Rat) = b at *
  generalize (n : Rat) = c
  grind
theorem In.sumAll {L B : Nat} {qs : List Rat} (h : ∀ q ∈ qs, In L B q) : In L (qs.length * B) (sumQ qs) := by
  have := In.sum h qs.length
  rwa [List.take_of_length_le (Nat.le_refl _)] at this
theorem In.sm64 {L B : Nat} {q : Rat} (h : In L B q) (h0 : 0 < L) (hL : L < 18446744073709551616) (hB : B < 18446744073709551616) : Sm q :=
  h.sm h0 (Nat.lt_of_lt_of_le (show L < 2 ^ 64 from hL) (Nat.pow_le_pow_right (by decide) (by decide))) (Nat.lt_of_lt_of_le (show B < 2 ^ 64 from hB) (Nat.pow_le_pow_right (by decide) (by decide)))
theorem neg_num (q : Rat) : (-q).num = -q.num := rfl
theorem neg_den (q : Rat) : (-q).den = q.den := rfl
theorem Sm.neg {q : Rat} (h : Sm q) : Sm (-q) := ⟨by rw [neg_num, Int.natAbs_neg]; exact h.1, by rw [neg_den]; exact h.2⟩
theorem mul_eq (p q : Rat) : (((p.num * q.num : Int)) : Rat) / (((p.den : Int) * (q.den : Int) : Int) : Rat) = p * q := by
  have hp := rat_eq p
  have hq := rat_eq q
  have h1 := den_ne p
  have h2 := den_ne q
  rw [Rat.intCast_mul, Rat.intCast_mul]
  generalize (p.num : Rat) = a at *
  generalize ((p.den : Int) : Rat) = b at *
  generalize (q.num : Rat) = c at *
  generalize ((q.den : Int) : Rat) = d at *
  rw [hp, hq]
  grind
end Da
namespace Kx
open PySem PySem.Spec L2 Da
theorem lim44 : (2 : Nat) ^ 4400 ≤ Lim := by unfold Lim; exact Nat.pow_le_pow_right (by decide) (by decide)
theorem lim88 : (2 : Nat) ^ 8800 ≤ Lim := by unfold Lim; exact Nat.pow_le_pow_right (by decide) (by decide)
theorem law_timed_q {p q : Rat} (hp : Sm p) (hq : Sm q) : N_law_timed_piiq_piiq (fq p) (fq q) = .ok (fq (p * q)) := by
  unfold N_law_timed_piiq_piiq
  simp only [fq_fst, fq_snd]
  rw [mulR_44 hp.1 hq.1, mulR_44 hp.d hq.d]
  dsimp only [Res.bind_ok]
  rw [law_fraction (den_pos p q) (Nat.lt_of_lt_of_le (by rw [Int.natAbs_mul]; exact mul_lim hp.1 hq.1) lim88) (den_lim hp hq), mul_eq]
theorem den_k_pos (q : Rat) {k : Nat} (hk : 0 < k) : 0 < (q.den : Int) * (k : Int) := Int.mul_pos (by have := q.den_pos; omega) (by omega)
theorem den_k_lim {q : Rat} (h : Sm q) {k : Nat} (hk : k < 18446744073709551616) : ((q.den : Int) * (k : Int)).natAbs < Lim := by
  rw [Int.natAbs_mul, Int.natAbs_natCast, Int.natAbs_natCast]
  exact Nat.lt_of_lt_of_le (mul_lim h.2 (small44 hk)) lim88
def NoBreak (M : List (List Rat)) (n : Nat) : Prop := ∀ u w v x : Nat, u < w → w < n → v < x → x < n → at2 M u v + at2 M w x = at2 M u x + at2 M w v
theorem law_break_ok {L B : Nat} {M : List (List Rat)} {n : Nat} (h : Sq M n) (hI : AllIn L B M) (hn : n ≤ 1000) (h0 : 0 < L) (hL : L < 18446744073709551616) (hB : B < 18446744073709551616) : Tr (N_law_break_llpiiq (qm M)) fun r => r = none ↔ NoBreak M n := by
  unfold N_law_break_llpiiq
  have sm : ∀ u v : Nat, u < n → v < n → Sm (at2 M u v) := fun u v hu hv => (at_in h hI hu hv).sm64 h0 hL hB
  rw [qm_len, h.len]
  refine Tr.st (rngR_nat (by omega)) (tr_find (fun u => ∀ w v x : Int, u < w → w < n → 0 ≤ v → v < x → x < n → at2 M u.toNat v.toNat + at2 M w.toNat x.toNat = at2 M u.toNat x.toNat + at2 M w.toNat v.toNat) (fun r => r ≠ none ∧ ¬ NoBreak M n) (fun u hu => ?_) (fun p => Tr.ok ⟨fun _ => ?_, fun _ => rfl⟩) fun b r => ⟨fun z => absurd z r.1, fun nb => absurd nb r.2⟩)
  · have hu := mem_upto.mp hu
    refine Tr.st (rng2R_ok (by omega) (by omega) (by omega) (by omega)) (tr_find (fun w => ∀ v x : Int, 0 ≤ v → v < x → x < n → at2 M u.toNat v.toNat + at2 M w.toNat x.toNat = at2 M u.toNat x.toNat + at2 M w.toNat v.toNat) (fun r => r ≠ none ∧ ¬ NoBreak M n) (fun w hw => ?_) (fun p => Tr.ok (.inl ⟨rfl, fun w v x h1 h2 h3 h4 h5 => p w (mem_rngI.mpr (by omega)) v x h3 h4 h5⟩)) fun b r => .inr ⟨b, rfl, r⟩)
    have hw := mem_rngI.mp hw
    refine Tr.st (rngR_nat (by omega)) (tr_find (fun v => ∀ x : Int, v < x → x < n → at2 M u.toNat v.toNat + at2 M w.toNat x.toNat = at2 M u.toNat x.toNat + at2 M w.toNat v.toNat) (fun r => r ≠ none ∧ ¬ NoBreak M n) (fun v hv => ?_) (fun p => Tr.ok (.inl ⟨rfl, fun v x h1 h2 h3 => p v (mem_upto.mpr (by omega)) x h2 h3⟩)) fun b r => .inr ⟨b, rfl, r⟩)
    have hv := mem_upto.mp hv
    refine Tr.st (rng2R_ok (by omega) (by omega) (by omega) (by omega)) (tr_find (fun x => at2 M u.toNat v.toNat + at2 M w.toNat x.toNat = at2 M u.toNat x.toNat + at2 M w.toNat v.toNat) (fun r => r ≠ none ∧ ¬ NoBreak M n) (fun x hx => ?_) (fun p => Tr.ok (.inl ⟨rfl, fun x h1 h2 => p x (mem_rngI.mpr (by omega))⟩)) fun b r => .inr ⟨b, rfl, r⟩)
    have hx := mem_rngI.mp hx
    rw [ix2 h (u := u) (v := v) (by omega) (by omega) (by omega) (by omega), ix2 h (u := w) (v := x) (by omega) (by omega) (by omega) (by omega), ix2 h (u := u) (v := x) (by omega) (by omega) (by omega) (by omega), ix2 h (u := w) (v := v) (by omega) (by omega) (by omega) (by omega)]
    dsimp only [Res.bind_ok]
    rw [law_added_q (sm _ _ (by omega) (by omega)) (sm _ _ (by omega) (by omega)), law_added_q (sm _ _ (by omega) (by omega)) (sm _ _ (by omega) (by omega))]
    dsimp only [Res.bind_ok]
    rw [fq_dec]
    by_cases e : at2 M u.toNat v.toNat + at2 M w.toNat x.toNat = at2 M u.toNat x.toNat + at2 M w.toNat v.toNat
    · exact Tr.itF (by simp [e]) (Tr.ok (.inl ⟨rfl, e⟩))
    · exact Tr.itT (by simp [e]) (Tr.ok (.inr ⟨some (u, w, v, x), rfl, ⟨(fun z => nomatch z), (fun nb : NoBreak M n => e (nb _ _ _ _ (by omega) (by omega) (by omega) (by omega)))⟩⟩))
  · intro u w v x h1 h2 h3 h4
    have := p (u : Int) (mem_upto.mpr (by omega)) (w : Int) (v : Int) (x : Int) (by omega) (by omega) (by omega) (by omega) (by omega)
    simpa using this
end Kx
namespace Kx
open PySem PySem.Spec L2 Da
def SS (n : Nat) (f : Nat → Rat) : Rat := sumQ ((List.range n).map f)
theorem SS_congr {n : Nat} {f g : Nat → Rat} (h : ∀ i, i < n → f i = g i) : SS n f = SS n g := by
  unfold SS
  congr 1
  exact List.map_congr_left fun i hi => h i (List.mem_range.mp hi)
theorem SS_add (n : Nat) (f g : Nat → Rat) : SS n (fun i => f i + g i) = SS n f + SS n g := sumQ_add f g _
theorem SS_mul (n : Nat) (c : Rat) (f : Nat → Rat) : SS n (fun i => c * f i) = c * SS n f := sumQ_mul c f _
theorem SS_const (n : Nat) (c : Rat) : SS n (fun _ => c) = ((n : Int) : Rat) * c := by
  unfold SS
  rw [sumQ_const, List.length_range]
theorem SS_swap (n : Nat) (f : Nat → Nat → Rat) : SS n (fun u => SS n fun v => f u v) = SS n (fun v => SS n fun u => f u v) := sumQ_swap f _ _
theorem SS_div (n : Nat) (c : Rat) (f : Nat → Rat) : SS n (fun i => f i / c) = SS n f / c := by
  rw [show (fun i => f i / c) = fun i => c⁻¹ * f i from funext fun i => by rw [Rat.div_def]; grind, SS_mul, Rat.div_def]
  grind
def rowS (M : List (List Rat)) (n u : Nat) : Rat := SS n fun v => at2 M u v
def colS (M : List (List Rat)) (n v : Nat) : Rat := SS n fun u => at2 M u v
def totS (M : List (List Rat)) (n : Nat) : Rat := SS n fun u => rowS M n u
theorem tot_col (M : List (List Rat)) (n : Nat) : SS n (fun v => colS M n v) = totS M n := (SS_swap n fun u v => at2 M u v).symm
def cen (M : List (List Rat)) (n u v : Nat) : Rat := at2 M u v - rowS M n u / ((n : Int) : Rat) - colS M n v / ((n : Int) : Rat) + totS M n / (((n * n : Nat) : Int) : Rat)
theorem nn_div {n : Nat} (hn : 0 < n) (t : Rat) : t / (((n * n : Nat) : Int) : Rat) = t / ((n : Int) : Rat) / ((n : Int) : Rat) := by
  have h := natCast_ne hn
  rw [Int.natCast_mul, Rat.intCast_mul]
  generalize ((n : Int) : Rat) = a at *
  grind
theorem nobreak_all {M : List (List Rat)} {n : Nat} (h : NoBreak M n) : ∀ u w v x : Nat, u < n → w < n → v < n → x < n → at2 M u v + at2 M w x = at2 M u x + at2 M w v := by
  intro u w v x hu hw hv hx
  rcases Nat.lt_trichotomy u w with a | rfl | a <;> rcases Nat.lt_trichotomy v x with b | rfl | b
  · exact h u w v x a hw b hx
  · rfl
  · have := h u w x v a hw b hv; grind
  · grind
  · rfl
  · grind
  · have := h w u v x a hu b hx; grind
  · rfl
  · have := h w u x v a hu b hv; grind
theorem nobreak_cen {M : List (List Rat)} {n : Nat} (hn : 0 < n) : NoBreak M n ↔ ∀ u v : Nat, u < n → v < n → cen M n u v = 0 := by
  have hz := natCast_ne hn
  constructor
  · intro h u v hu hv
    have e : ∀ p q : Nat, p < n → q < n → at2 M p q = at2 M p 0 + (at2 M 0 q - at2 M 0 0) := fun p q hp hq => by
      have := nobreak_all h p 0 q 0 hp hn hq hn
      grind
    have r : ∀ p, p < n → rowS M n p = ((n : Int) : Rat) * at2 M p 0 + SS n (fun q => at2 M 0 q - at2 M 0 0) := fun p hp => by
      unfold rowS
      rw [SS_congr fun q hq => e p q hp hq, SS_add, SS_const]
    have c : ∀ q, q < n → colS M n q = SS n (fun p => at2 M p 0) + ((n : Int) : Rat) * (at2 M 0 q - at2 M 0 0) := fun q hq => by
      unfold colS
      rw [SS_congr fun p hp => e p q hp hq, SS_add, SS_const]
    have t : totS M n = ((n : Int) : Rat) * SS n (fun p => at2 M p 0) + ((n : Int) : Rat) * SS n (fun q => at2 M 0 q - at2 M 0 0) := by
      unfold totS
      rw [SS_congr r, SS_add, SS_mul, SS_const]
    unfold cen
    rw [r u hu, c v hv, t, nn_div hn, e u v hu hv]
    generalize ((n : Int) : Rat) = a at *
    generalize SS n (fun p => at2 M p 0) = b
    generalize SS n (fun q => at2 M 0 q - at2 M 0 0) = d
    grind
  · intro h u w v x huw hw hvx hx
    have h1 := h u v (by omega) (by omega)
    have h2 := h w x (by omega) (by omega)
    have h3 := h u x (by omega) (by omega)
    have h4 := h w v (by omega) (by omega)
    unfold cen at h1 h2 h3 h4
    grind
def dU (d : List Int) (u : Nat) : Nat := (d.getD u 0).toNat
theorem perm_sum {n : Nat} {d : List Int} (hd : d.Perm (upto n)) (g : Nat → Rat) : SS n (fun u => g (dU d u)) = SS n g := by
  have hl : d.length = n := by rw [hd.length_eq, upto_length]
  have e : (List.range n).map (fun u => g (dU d u)) = d.map fun x => g x.toNat := by
    refine List.ext_getElem? fun i => ?_
    rw [List.getElem?_map, List.getElem?_map]
    by_cases hi : i < n
    · rw [List.getElem?_range hi, List.getElem?_eq_getElem (by omega)]
      show some (g (d.getD i 0).toNat) = some (g (d[i]'(by omega)).toNat)
      rw [List.getD_eq_getElem?_getD, List.getElem?_eq_getElem (by omega)]
      rfl
    · rw [List.getElem?_eq_none (by rw [List.length_range]; omega), List.getElem?_eq_none (by omega)]
      rfl
  unfold SS
  rw [e, sumQ_perm (hd.map fun x => g x.toNat)]
  unfold upto
  rw [List.map_map]
  congr 1
end Kx
namespace Kx
open PySem PySem.Spec L2 Da
def mat (n : Nat) (f : Nat → Nat → Rat) : List (List Rat) := (List.range n).map fun u => (List.range n).map fun v => f u v
theorem mat_sq {n : Nat} {f : Nat → Nat → Rat} : Sq (mat n f) n := ⟨by unfold mat; rw [List.length_map, List.length_range], fun r hr => by
  obtain ⟨u, _, rfl⟩ := List.mem_map.mp hr
  rw [List.length_map, List.length_range]⟩
theorem mat_row {n u : Nat} {f : Nat → Nat → Rat} (hu : u < n) : (mat n f).getD u [] = (List.range n).map fun v => f u v := by
  unfold mat
  rw [List.getD_eq_getElem?_getD, List.getElem?_map, List.getElem?_range hu]
  rfl
theorem mat_at {n u v : Nat} {f : Nat → Nat → Rat} (hu : u < n) (hv : v < n) : at2 (mat n f) u v = f u v := by
  unfold at2
  rw [mat_row hu, List.getD_eq_getElem?_getD, List.getElem?_map, List.getElem?_range hv]
  rfl
theorem row_list {M : List (List Rat)} {n u : Nat} (h : Sq M n) (hu : u < n) : M.getD u [] = (List.range n).map fun v => at2 M u v := by
  have hl := row_len h hu
  refine List.ext_getElem? fun v => ?_
  rw [List.getElem?_map]
  by_cases hv : v < n
  · rw [List.getElem?_range hv, List.getElem?_eq_getElem (by omega)]
    show _ = some (at2 M u v)
    unfold at2
    rw [List.getD_eq_getElem?_getD (l := M.getD u []), List.getElem?_eq_getElem (by omega)]
    rfl
  · rw [List.getElem?_eq_none (by omega), List.getElem?_eq_none (by rw [List.length_range]; omega)]
    rfl
theorem mat_eq {M : List (List Rat)} {n : Nat} (h : Sq M n) : M = mat n (at2 M) := by
  unfold mat
  refine List.ext_getElem? fun u => ?_
  rw [List.getElem?_map]
  by_cases hu : u < n
  · have e := List.getElem?_eq_getElem (l := M) (i := u) (by rw [h.len]; exact hu)
    have e1 : M.getD u [] = M[u]'(by rw [h.len]; exact hu) := by rw [List.getD_eq_getElem?_getD, e]; rfl
    rw [List.getElem?_range hu, e]
    show _ = some ((List.range n).map fun v => at2 M u v)
    rw [← row_list h hu, e1]
  · rw [List.getElem?_eq_none (by rw [h.len]; omega), List.getElem?_eq_none (by rw [List.length_range]; omega)]
    rfl
theorem mat_in {n L B : Nat} {f : Nat → Nat → Rat} (h : ∀ u v, u < n → v < n → In L B (f u v)) : AllIn L B (mat n f) := by
  intro r hr q hq
  obtain ⟨u, hu, rfl⟩ := List.mem_map.mp hr
  obtain ⟨v, hv, rfl⟩ := List.mem_map.mp hq
  exact h u v (List.mem_range.mp hu) (List.mem_range.mp hv)
theorem rows_sumQ {M : List (List Rat)} {n : Nat} (h : Sq M n) : M.map sumQ = (List.range n).map fun u => rowS M n u := by
  have e := congrArg (List.map sumQ) (mat_eq h)
  rw [e]
  unfold mat
  rw [List.map_map]
  rfl
theorem total_S {M : List (List Rat)} {n : Nat} (h : Sq M n) : total M = totS M n := by
  unfold total
  rw [rows_sumQ h]
  rfl
/-- the columns as rows -/
def trn (M : List (List Rat)) (n : Nat) : List (List Rat) := mat n fun u v => at2 M v u
theorem trn_row {M : List (List Rat)} {n v : Nat} (hv : v < n) : rowS (trn M n) n v = colS M n v := by
  unfold rowS colS trn
  exact SS_congr fun u hu => mat_at hv hu
theorem trn_in {L B n : Nat} {M : List (List Rat)} (h : Sq M n) (hI : AllIn L B M) : AllIn L B (trn M n) := mat_in fun u v hu hv => at_in h hI hv hu
theorem turned_rows {M : List (List Rat)} {n : Nat} (h : Sq M n) (hn : n ≤ 1000000) : N_turned_rows_ttpiiq (qm M) = .ok (qm (trn M n)) := by
  unfold N_turned_rows_ttpiiq
  rw [qm_len, h.len, rngR_nat (by omega)]
  dsimp only [Res.bind_ok]
  rw [lcR_map (g := fun v : Int => (List.range n).map fun u => fq (at2 M u v.toNat)) (by rw [upto_length]; exact hn) (fun v hv => ?_)]
  · dsimp only [Res.bind_ok]
    congr 1
    unfold qm trn mat upto
    rw [List.map_map, List.map_map]
    refine List.map_congr_left fun v _ => ?_
    show _ = ((List.range n).map fun u => at2 M u v).map fq
    rw [List.map_map]
    rfl
  · have hv := mem_upto.mp hv
    rw [lcR_map (g := fun u : Int => fq (at2 M u.toNat v.toNat)) (by rw [upto_length]; exact hn) (fun u hu => by
      have hu := mem_upto.mp hu
      exact ix2 h hu.1 hu.2 hv.1 hv.2)]
    dsimp only [Res.bind_ok]
    congr 1
    unfold upto
    rw [List.map_map]
    rfl
theorem row_sums {L B : Nat} {M : List (List Rat)} {n : Nat} (h : Sq M n) (hI : AllIn L B M) (hn : n ≤ 1000000) (h0 : 0 < L) (hL : L < 2 ^ 4400) (hB : (n + 1) * B < 2 ^ 4400) : N_Table_row_sums_cTablettpiiqiq (qm M, (n : Int)) = .ok ((List.range n).map fun u => fq (rowS M n u)) := by
  unfold N_Table_row_sums_cTablettpiiqiq
  rw [line_sums h hI hn h0 hL hB, rows_sumQ h, List.map_map]
  rfl
theorem column_sums {L B : Nat} {M : List (List Rat)} {n : Nat} (h : Sq M n) (hI : AllIn L B M) (hn : n ≤ 1000000) (h0 : 0 < L) (hL : L < 2 ^ 4400) (hB : (n + 1) * B < 2 ^ 4400) : N_Table_column_sums_cTablettpiiqiq (qm M, (n : Int)) = .ok ((List.range n).map fun v => fq (colS M n v)) := by
  unfold N_Table_column_sums_cTablettpiiqiq
  dsimp only
  rw [turned_rows h hn]
  dsimp only [Res.bind_ok]
  have hs : Sq (trn M n) n := mat_sq
  rw [line_sums hs (trn_in h hI) hn h0 hL hB, rows_sumQ hs, List.map_map]
  congr 1
  refine List.map_congr_left fun v hv => ?_
  show fq (rowS (trn M n) n v) = _
  rw [trn_row (List.mem_range.mp hv)]
theorem law_total {L B : Nat} {M : List (List Rat)} {n : Nat} (h : Sq M n) (hI : AllIn L B M) (h0 : 0 < L) (hL : L < 2 ^ 4400) (hB : (n + 1) * ((n + 1) * B) < 2 ^ 4400) : N_law_total_llpiiq (qm M) = .ok (fq (totS M n)) := by
  unfold N_law_total_llpiiq
  simp only [Res.bind_ret]
  have hs := row_sums_in h hI
  obtain ⟨s, e, rfl⟩ := forR_inv (xs := qm M) (s := ((0, 1) : Int × Int)) (f := fun x1 x2 => forR (fun x3 x4 => N_law_added_piiq_piiq x3 x4) x2 x1) (fun i s => s = fq (sumQ ((M.map sumQ).take i))) rfl fun i x s hx hs' => by
    subst hs'
    unfold qm at hx
    rw [List.getElem?_map] at hx
    cases e : M[i]? with
    | none => rw [e] at hx; cases hx
    | some r =>
      rw [e] at hx
      cases hx
      have hi : i < n := by rw [← h.len]; exact (List.getElem?_eq_some_iff.mp e).1
      have hrl := h.row r (List.mem_of_getElem? e)
      have hrI := hI r (List.mem_of_getElem? e)
      have hP : In L (i * (n * B)) (sumQ ((M.map sumQ).take i)) := In.sum hs i
      obtain ⟨t, e2, rfl⟩ := forR_inv (xs := r.map fq) (s := fq (sumQ ((M.map sumQ).take i))) (f := fun x3 x4 => N_law_added_piiq_piiq x3 x4) (fun j t => t = fq (sumQ ((M.map sumQ).take i) + sumQ (r.take j))) (by
        show fq _ = fq (_ + 0)
        congr 1
        grind) fun j y t hy ht => by
        subst ht
        rw [List.getElem?_map] at hy
        cases e3 : r[j]? with
        | none => rw [e3] at hy; cases hy
        | some q =>
          rw [e3] at hy
          cases hy
          have hj : j < n := by rw [← hrl]; exact (List.getElem?_eq_some_iff.mp e3).1
          have hq := hrI q (List.mem_of_getElem? e3)
          have b1 : i * (n * B) + j * B < 2 ^ 4400 := by
            refine Nat.lt_of_le_of_lt ?_ hB
            have a1 : i * (n * B) ≤ n * ((n + 1) * B) := Nat.mul_le_mul (by omega) (Nat.mul_le_mul_right B (by omega))
            have a2 : j * B ≤ 1 * ((n + 1) * B) := by rw [Nat.one_mul]; exact Nat.mul_le_mul_right B (by omega)
            rw [Nat.add_mul]
            exact Nat.add_le_add a1 a2
          have b2 : B < 2 ^ 4400 := Nat.lt_of_le_of_lt (Nat.le_trans (Nat.le_mul_of_pos_left B (by omega : 0 < n + 1)) (Nat.le_mul_of_pos_left _ (by omega : 0 < n + 1))) hB
          refine ⟨_, law_added_q ((hP.add (In.sum hrI j)).sm h0 hL b1) (hq.sm h0 hL b2), ?_⟩
          congr 1
          rw [List.take_add_one, e3, Option.toList_some, sumQ_snoc]
          grind
      refine ⟨_, e2, ?_⟩
      congr 1
      rw [List.length_map, List.take_length, List.take_add_one, List.getElem?_map, e]
      show _ = sumQ (_ ++ [sumQ r])
      rw [sumQ_snoc]
  rw [e]
  congr 2
  rw [qm_len, List.take_of_length_le (by rw [List.length_map]; exact Nat.le_refl _), ← total_S h]
  rfl
theorem same_t (x : List (Int × Int)) (h : x.length ≤ 1000000) : N_law_same_tpiiq_lpiiq x x = .ok true := by
  unfold N_law_same_tpiiq_lpiiq
  rw [if_neg (by simp), rngR_nat (by omega)]
  dsimp only [Res.bind_ok]
  refine Tr.eq (tr_all (fun i hi => ?_) (Tr.ok rfl))
  have hi := mem_upto.mp hi
  have e := ixR_of (xs := x) (i := i) (x := x[i.toNat]'(by omega)) hi.1 (List.getElem?_eq_getElem (by omega))
  rw [e]
  dsimp only [Res.bind_ok]
  rw [law_same_pii]
  exact Tr.of (by simp) rfl
theorem same_tt (x : List (List (Int × Int))) (h : x.length ≤ 1000000) (h2 : ∀ r ∈ x, r.length ≤ 1000000) : N_law_same_ttpiiq_llpiiq x x = .ok true := by
  unfold N_law_same_ttpiiq_llpiiq
  rw [if_neg (by simp), rngR_nat (by omega)]
  dsimp only [Res.bind_ok]
  refine Tr.eq (tr_all (fun i hi => ?_) (Tr.ok rfl))
  have hi := mem_upto.mp hi
  have e := ixR_of (xs := x) (i := i) (x := x[i.toNat]'(by omega)) hi.1 (List.getElem?_eq_getElem (by omega))
  rw [e]
  dsimp only [Res.bind_ok]
  rw [same_t _ (h2 _ (List.getElem_mem _))]
  exact Tr.of rfl rfl
theorem in_int2 {k : Int} (h : k.natAbs ≤ 100) : In 60 6000 (k : Rat) := by
  have := (In.of (t := k) (b := 1) (L := 60) 60 (by decide) (by decide) (by decide)).le (B := 6000) (by omega)
  have e : ((k : Int) : Rat) / ((1 : Int) : Rat) = (k : Rat) := by
    have : ((1 : Int) : Rat) = 1 := rfl
    rw [this]; grind
  rwa [e] at this
theorem bot_mem {w : Int} (hw : w ∈ [1, 1, 1, 2, 3, 4, 6, 1, (5 : Int)]) : w = 1 ∨ w = 2 ∨ w = 3 ∨ w = 4 ∨ w = 5 ∨ w = 6 := by
  simp only [List.mem_cons, List.not_mem_nil, or_false] at hw
  omega
theorem split_rows {n : Nat} {row : List Int} (hn : n ≤ 5) (hd : Digs tabSizes row) : Tr (N_law_split_rows_i_li n row) fun r => ∃ M, r = qm M ∧ Sq M n ∧ AllIn 60 6000 M := by
  unfold N_law_split_rows_i_li
  simp only [Res.bind_ret, Res.bind_assoc, Res.bind_ok]
  refine Tr.st (rngR_nat (by omega)) (tr_forRn (fun i s => ∃ M : List (List Rat), s = qm M ∧ M.length = i ∧ ∀ r ∈ M, r.length = n ∧ ∀ q ∈ r, In 60 6000 q) ⟨[], rfl, rfl, fun r h => nomatch h⟩ (fun i s hi => ?_) fun s => ?_)
  · rintro ⟨M, rfl, hl, hr⟩
    refine Tr.st (rngR_nat (by omega)) ?_
    refine Tr.bind (Q := fun t => ∃ R : List Rat, t = R.map fq ∧ R.length = n ∧ ∀ q ∈ R, In 60 6000 q) (tr_forRn (fun j t => ∃ R : List Rat, t = R.map fq ∧ R.length = j ∧ ∀ q ∈ R, In 60 6000 q) ⟨[], rfl, rfl, fun r h => nomatch h⟩ (fun j t hj => ?_) fun t h => h) ?_
    · rintro ⟨R, rfl, hRl, hR⟩
      obtain ⟨k1, k2⟩ := tabSizes_ok i (by omega)
      have hk : n * (n - 1) + j < 25 := by
        rcases (show n = 0 ∨ n = 1 ∨ n = 2 ∨ n = 3 ∨ n = 4 ∨ n = 5 by omega) with rfl | rfl | rfl | rfl | rfl | rfl <;> omega
      obtain ⟨k3, k4⟩ := tabSizes_ok _ hk
      obtain ⟨a, ea, a0, a1⟩ := hd.ix k1
      obtain ⟨b, eb, b0, b1⟩ := hd.ix k2
      obtain ⟨c, ec, c0, c1⟩ := hd.ix k3
      obtain ⟨d, ed, d0, d1⟩ := hd.ix k4
      have hnn : (n : Int) * ((n : Int) - 1) = ((n * (n - 1) : Nat) : Int) := by
        rcases (show n = 0 ∨ n = 1 ∨ n = 2 ∨ n = 3 ∨ n = 4 ∨ n = 5 by omega) with rfl | rfl | rfl | rfl | rfl | rfl <;> decide
      refine Tr.st (mulR_64 (by omega) (by omega)) ?_
      rw [show 1 + 2 * (i : Int) = ((1 + 2 * i : Nat) : Int) by omega]
      refine Tr.st ea ?_
      refine Tr.st (mulR_64 (by omega) (by omega)) ?_
      rw [show 2 + 2 * (i : Int) = ((2 + 2 * i : Nat) : Int) by omega]
      refine Tr.st eb ?_
      obtain ⟨w, ew, hw⟩ := ixR_mem (xs := [1, 1, 1, 2, 3, 4, 6, 1, (5 : Int)]) b0 (by simpa using b1)
      refine Tr.st ew ?_
      have hw := bot_mem hw
      refine Tr.st (law_fraction (by omega) (lt_lim (by omega)) (lt_lim (by omega))) ?_
      refine Tr.st (mulR_64 (by omega) (by omega)) ?_
      rw [hnn]
      refine Tr.st (mulR_64 (by omega) (by omega)) ?_
      rw [show 1 + 2 * (((n * (n - 1) : Nat) : Int) + (j : Int)) = ((1 + 2 * (n * (n - 1) + j) : Nat) : Int) by omega]
      refine Tr.st ec ?_
      rw [show (((1 + 2 * (n * (n - 1) + j) : Nat) : Int)) + 1 = ((2 + 2 * (n * (n - 1) + j) : Nat) : Int) by omega]
      refine Tr.st ed ?_
      obtain ⟨z, ez, hz⟩ := ixR_mem (xs := [1, 1, 1, 2, 3, 4, 6, 1, (5 : Int)]) d0 (by simpa using d1)
      refine Tr.st ez ?_
      have hz := bot_mem hz
      refine Tr.st (law_fraction (by omega) (lt_lim (by omega)) (lt_lim (by omega))) ?_
      have i1 := in60 (t := a - 12) (by omega) hw
      have i2 := in60 (t := c - 20) (by omega) hz
      refine Tr.st (law_added_q (i1.sm64 (by decide) (by decide) (by decide)) (i2.sm64 (by decide) (by decide) (by decide))) ?_
      refine Tr.of (appR_ok (by rw [List.length_map]; omega)) ⟨R ++ [_], by rw [List.map_append]; rfl, by rw [List.length_append, hRl]; rfl, fun q hq => ?_⟩
      rcases List.mem_append.mp hq with h | h
      · exact hR q h
      · rw [List.mem_singleton.mp h]
        exact i1.add i2
    · rintro t ⟨R, rfl, hRl, hR⟩
      refine Tr.of (appR_ok (by rw [qm_len]; omega)) ⟨M ++ [R], by unfold qm; rw [List.map_append]; rfl, by rw [List.length_append, hl]; rfl, fun r h => ?_⟩
      rcases List.mem_append.mp h with h | h
      · exact hr r h
      · rw [List.mem_singleton.mp h]
        exact ⟨hRl, hR⟩
  · rintro ⟨M, rfl, hl, hr⟩
    exact ⟨M, rfl, ⟨hl, fun r h => (hr r h).1⟩, fun r h => (hr r h).2⟩
end Kx
namespace Kx
open PySem PySem.Spec L2 Da
def Nd (n : Nat) (x : Int) : Prop := 0 ≤ x ∧ x < n
theorem Nd.nat {n : Nat} {x : Int} (h : Nd n x) : ∃ k : Nat, x = k ∧ k < n := ⟨x.toNat, by have := h.1; omega, by have := h.1; have := h.2; omega⟩
theorem Nd.of {n k : Nat} (h : k < n) : Nd n (k : Int) := ⟨by omega, by omega⟩
def nb (N : List (List Int)) (a : Int) : List Int := N.getD a.toNat []
structure Near (n : Nat) (N : List (List Int)) : Prop where
  len : N.length = n
  pos : 0 < n
  le : n ≤ 24
  rng : ∀ a b, Nd n a → b ∈ nb N a → Nd n b ∧ b ≠ a
  sym : ∀ a b, Nd n a → b ∈ nb N a → a ∈ nb N b
  few : ∀ a, (nb N a).length ≤ 1000
  con : ∀ S : Int → Prop, (∀ a b, Nd n a → b ∈ nb N a → S a → S b) → ∀ s t, Nd n s → Nd n t → S s → S t
end Kx
namespace Kx
open PySem PySem.Spec L2 Da
theorem bind_eq {α β : Type} {r : Res α} {v : α} {f : α → Res β} {Q : β → Prop} (h : r = .ok v) (k : Tr (f v) Q) : Tr (r.bind f) Q := by rw [h]; exact k
end Kx
namespace Kx
open PySem PySem.Spec L2 Da
theorem nodup_le {n : Nat} {r : List Int} (nd : r.Nodup) (rg : ∀ x ∈ r, Nd n x) : r.length ≤ n := by
  have := nd.length_le_of_subset (l₂ := upto n) fun x hx => mem_upto.mpr (rg x hx)
  rwa [upto_length] at this
/-- each node is followed by a neighbor -/
def Stp (N : List (List Int)) (r : List Int) : Prop := ∀ (i : Nat) a b, r[i]? = some a → r[i + 1]? = some b → b ∈ nb N a
structure Rt (n : Nat) (N : List (List Int)) (u v : Int) (r : List Int) : Prop where
  hd : r.head? = some u
  la : r.getLast? = some v
  nd : r.Nodup
  rg : ∀ x ∈ r, Nd n x
  st : Stp N r
theorem Rt.len {n : Nat} {N : List (List Int)} {u v : Int} {r : List Int} (h : Rt n N u v r) : r.length ≤ n := nodup_le h.nd h.rg
theorem Rt.ne {n : Nat} {N : List (List Int)} {u v : Int} {r : List Int} (h : Rt n N u v r) : r ≠ [] := fun e => by have := h.hd; rw [e] at this; cases this
theorem Stp.one {N : List (List Int)} {x : Int} : Stp N [x] := fun i a b h1 h2 => by simp at h2
theorem Stp.snoc {N : List (List Int)} {r : List Int} {a b : Int} (h : Stp N r) (hl : r.getLast? = some a) (hb : b ∈ nb N a) : Stp N (r ++ [b]) := fun i x y h1 h2 => by
  by_cases hi : i + 1 < r.length
  · rw [List.getElem?_append_left (by omega)] at h1 h2
    exact h i x y h1 h2
  · have hlt := (List.getElem?_eq_some_iff.mp h2).1
    rw [List.length_append, List.length_singleton] at hlt
    have e : i + 1 = r.length := by omega
    rw [e, List.getElem?_concat_length] at h2
    rw [List.getElem?_append_left (by omega)] at h1
    rw [List.getLast?_eq_getElem?, show r.length - 1 = i by omega, h1] at hl
    cases h2; cases hl
    exact hb
theorem frozen_t (r : List Int) (h : r.length ≤ 1000000) : N_frozen_ti r = .ok r := by
  unfold N_frozen_ti
  simp only [Res.bind_ret]
  exact (lcR_map (g := fun x => x) h fun x _ => rfl).trans (by rw [List.map_id'])
def rtAt (R : List (List (List Int))) (u v : Nat) : List Int := (R.getD u []).getD v []
/-- rows of routes -/
structure Rows (n : Nat) (N : List (List Int)) (R : List (List (List Int))) : Prop where
  len : R.length = n
  row : ∀ (u : Nat), u < n → (R.getD u []).length = n
  rt : ∀ (u v : Nat), u < n → v < n → Rt n N u v (rtAt R u v)
theorem getD_some {α : Type} {xs : List α} {d : α} {i : Nat} (h : i < xs.length) : xs[i]? = some (xs.getD i d) := by
  rw [List.getD_eq_getElem?_getD, List.getElem?_eq_getElem h]; rfl
theorem mem_getD {α : Type} {xs : List α} {d x : α} (h : x ∈ xs) : ∃ i, i < xs.length ∧ x = xs.getD i d := by
  obtain ⟨i, hi⟩ := List.mem_iff_getElem?.mp h
  have hl := (List.getElem?_eq_some_iff.mp hi).1
  refine ⟨i, hl, ?_⟩
  rw [getD_some (d := d) hl] at hi
  cases hi
  rfl
theorem Rows.ix {n : Nat} {N : List (List Int)} {R : List (List (List Int))} (h : Rows n N R) {u v : Nat} (hu : u < n) (hv : v < n) : ((ixR R (u : Int)).bind fun x => ixR x (v : Int)) = .ok (rtAt R u v) := by
  rw [ixR_nat (getD_some (d := []) (by rw [h.len]; exact hu))]
  dsimp only [Res.bind_ok]
  rw [ixR_nat (getD_some (d := []) (by rw [h.row u hu]; exact hv))]
  rfl
end Kx
namespace Kx
open PySem PySem.Spec L2 Da
section
variable {n : Nat} {N : List (List Int)}
/-- a route under way to v -/
structure Fr (n : Nat) (N : List (List Int)) (u v : Int) (i : Nat) (r : List Int) : Prop where
  len : r.length = i + 1
  hd : r.head? = some u
  nd : r.Nodup
  rg : ∀ x ∈ r, Nd n x
  st : Stp N r
theorem Fr.one {u v : Int} (hu : Nd n u) : Fr n N u v 0 [u] := ⟨rfl, rfl, by simp, fun x hx => by rw [List.mem_singleton.mp hx]; exact hu, Stp.one⟩
theorem Fr.done {u v : Int} {i : Nat} {r : List Int} (h : Fr n N u v i r) (hl : r.getLast? = some v) : Rt n N u v r := ⟨h.hd, hl, h.nd, h.rg, h.st⟩
theorem Fr.snoc {u v : Int} {i : Nat} {r : List Int} {a b : Int} (hN : Near n N) (h : Fr n N u v i r) (hl : r.getLast? = some a) (hb : b ∈ nb N a) (hr : b ∉ r) : Fr n N u v (i + 1) (r ++ [b]) := by
  have ha : a ∈ r := List.mem_of_getLast? hl
  refine ⟨by rw [List.length_append, h.len]; rfl, ?_, ?_, fun x hx => ?_, h.st.snoc hl hb⟩
  · have := h.hd
    cases r with
    | nil => cases this
    | cons x r => exact this
  · rw [List.nodup_append]
    exact ⟨h.nd, by simp, fun x hx y hy e => hr (by rw [← List.mem_singleton.mp hy, ← e]; exact hx)⟩
  · rcases List.mem_append.mp hx with z | z
    · exact h.rg x z
    · rw [List.mem_singleton.mp z]
      exact (hN.rng a b (h.rg a ha) hb).1
end
end Kx
namespace Kx
open PySem PySem.Spec L2 Da
def dst (row : List (Option Int)) (x : Int) : Option Int := row.getD x.toNat none
end Kx
namespace Kx
open PySem PySem.Spec L2 Da
section
variable {n : Nat} {N : List (List Int)}
/-- a route under way: the potential falls -/
structure Dr (n : Nat) (N : List (List Int)) (P : Int → Int) (u v : Int) (i : Nat) (r : List Int) : Prop where
  fr : Fr n N u v i r
  lo : ∀ a, r.getLast? = some a → ∀ x ∈ r, P a ≤ P x
theorem Dr.one {P : Int → Int} {u v : Int} (hu : Nd n u) : Dr n N P u v 0 [u] := ⟨Fr.one hu, fun a ha x hx => by cases ha; rw [List.mem_singleton.mp hx]; exact Int.le_refl _⟩
theorem Dr.snoc {P : Int → Int} {u v : Int} {i : Nat} {r : List Int} {a b : Int} (hN : Near n N) (h : Dr n N P u v i r) (hl : r.getLast? = some a) (hb : b ∈ nb N a) (hp : P b < P a) : Dr n N P u v (i + 1) (r ++ [b]) := by
  have hr : b ∉ r := fun m => by have := h.lo a hl b m; omega
  refine ⟨h.fr.snoc hN hl hb hr, fun c hc x hx => ?_⟩
  rw [List.getLast?_concat] at hc
  cases hc
  rcases List.mem_append.mp hx with z | z
  · have := h.lo a hl x z; omega
  · rw [List.mem_singleton.mp z]; exact Int.le_refl _
/-- the same without coming back -/
inductive Ws (N : List (List Int)) (p : Int → Int → Int) (g : Int) : List Int → Int → Int → Prop
  | nil : Ws N p g [g] g 0
  | step {r : List Int} {x c w : Int} (h : c ∈ nb N x) (hr : x ∉ r) (t : Ws N p g r c w) : Ws N p g (x :: r) x (p x c + w)
theorem Ws.mem {p : Int → Int → Int} {g : Int} : ∀ {r : List Int} {x w : Int}, Ws N p g r x w → r.Nodup ∧ x ∈ r
  | _, _, _, .nil => ⟨by simp, by simp⟩
  | _, _, _, .step h hr t => ⟨List.nodup_cons.mpr ⟨hr, (Ws.mem t).1⟩, by simp⟩
theorem Ws.rg (hN : Near n N) {p : Int → Int → Int} {g : Int} (hg : Nd n g) : ∀ {r : List Int} {x w : Int}, Ws N p g r x w → Nd n x → ∀ y ∈ r, Nd n y
  | _, _, _, .nil, _ => fun y hy => by rw [List.mem_singleton.mp hy]; exact hg
  | _, _, _, .step h hr t, hx => fun y hy => by
    rcases List.mem_cons.mp hy with z | z
    · rw [z]; exact hx
    · exact Ws.rg hN hg t (hN.rng _ _ hx h).1 y z
end
end Kx
namespace Kx
open PySem PySem.Spec L2 Da
section
variable {n : Nat} {N : List (List Int)}
def Le (n : Nat) (r' r : List (Option Int)) : Prop := ∀ x, Nd n x → ∀ d, dst r x = some d → ∃ e, dst r' x = some e ∧ e ≤ d
theorem Le.rfl {r : List (Option Int)} : Le n r r := fun x _ d h => ⟨d, h, Int.le_refl _⟩
theorem Le.tr {a b c : List (Option Int)} (h : Le n a b) (k : Le n b c) : Le n a c := fun x hx d e => by
  obtain ⟨e1, h1, l1⟩ := k x hx d e
  obtain ⟨e2, h2, l2⟩ := h x hx e1 h1
  exact ⟨e2, h2, by omega⟩
/-- the edge is not too long -/
def Ok (p : Int → Int → Int) (r r0 : List (Option Int)) (x c : Int) : Prop := ∀ d, dst r0 c = some d → ∃ e, dst r x = some e ∧ e ≤ p x c + d
theorem Ok.le {p : Int → Int → Int} {r r' r0 : List (Option Int)} {x c : Int} (hx : Nd n x) (h : Ok p r r0 x c) (l : Le n r' r) : Ok p r' r0 x c := fun d hd => by
  obtain ⟨e, h1, h2⟩ := h d hd
  obtain ⟨e', h3, h4⟩ := l x hx e h1
  exact ⟨e', h3, by omega⟩
end
end Kx
namespace Kx
open PySem PySem.Spec L2 Da
section
variable {n : Nat} {N : List (List Int)}
theorem borR_nat {α : Type} {xs : List α} {i : Nat} {x : α} (h : xs[i]? = some x) : borR xs (i : Int) = .ok (i, x) := by
  have hi := (List.getElem?_eq_some_iff.mp h).1
  unfold borR ixN
  rw [if_pos (by omega), Int.toNat_natCast, if_pos (by omega)]
  show (match xs[i]? with | some u => Res.ok (i, u) | none => Res.er) = _
  rw [h]
end
end Kx
namespace Kx
open PySem PySem.Spec L2 Da
theorem rep1 {k : Nat} {a : Int} : (List.replicate k [a]).flatten = List.replicate k a := by
  induction k with
  | zero => rfl
  | succ k ih => rw [List.replicate_succ, List.flatten_cons, ih]; rfl
section
variable {n : Nat} {N : List (List Int)} {R : List (List (List Int))}
theorem Rows.mem (h : Rows n N R) {row : List (List Int)} (hr : row ∈ R) : row.length = n ∧ ∀ r ∈ row, r ≠ [] ∧ r.length ≤ n := by
  obtain ⟨u, hu, rfl⟩ := mem_getD (d := []) hr
  rw [h.len] at hu
  refine ⟨h.row u hu, fun r hr => ?_⟩
  obtain ⟨v, hv, rfl⟩ := mem_getD (d := []) hr
  rw [h.row u hu] at hv
  have := h.rt u v hu hv
  exact ⟨this.ne, this.len⟩
end
end Kx
namespace Kx
open PySem PySem.Spec L2 Da
def sI {α : Type} (xs : List α) (f : α → Int) : Int := (xs.map f).sum
section
variable {α β : Type}
theorem sI_cons {x : α} {xs : List α} {f : α → Int} : sI (x :: xs) f = f x + sI xs f := by unfold sI; rw [List.map_cons, List.sum_cons]
theorem sI_le {xs : List α} {f g : α → Int} (h : ∀ x ∈ xs, f x ≤ g x) : sI xs f ≤ sI xs g := by
  induction xs with
  | nil => exact Int.le_refl _
  | cons x xs ih =>
    have h1 := h x List.mem_cons_self
    have h2 := ih fun y hy => h y (List.mem_cons_of_mem _ hy)
    rw [sI_cons, sI_cons]
    omega
theorem sI_const (xs : List α) (c : Int) : sI xs (fun _ => c) = (xs.length : Int) * c := by
  induction xs with
  | nil => exact (Int.zero_mul c).symm
  | cons x xs ih =>
    rw [sI_cons, ih, List.length_cons, Int.natCast_add, Int.add_mul]
    omega
end
end Kx
namespace Kx
open PySem PySem.Spec L2 Da
/-- a place: a node or a lane -/
def Plc (pl : List Int) : Prop := (∃ a, pl = [a]) ∨ ∃ a b, pl = [a, b]
theorem Plc.len {pl : List Int} (h : Plc pl) : pl.length ≤ 2 := by rcases h with ⟨a, rfl⟩ | ⟨a, b, rfl⟩ <;> simp
theorem frozen_li {r : List Int} (h : r.length ≤ 1000000) : N_frozen_li r = .ok r := by
  unfold N_frozen_li
  simp only [Res.bind_ret]
  exact (lcR_map (g := fun x => x) h fun x _ => rfl).trans (by rw [List.map_id'])
end Kx
namespace Kx
open PySem PySem.Spec L2 Da
theorem upto_map {α : Type} (d : α) (xs : List α) : (upto xs.length).map (fun v => xs.getD v.toNat d) = xs := by
  refine List.ext_getElem? fun i => ?_
  unfold upto
  rw [List.map_map, List.getElem?_map]
  by_cases hi : i < xs.length
  · rw [List.getElem?_range hi, getD_some (d := d) hi]
    show some (xs.getD ((i : Int)).toNat d) = _
    rw [Int.toNat_natCast]
  · rw [List.getElem?_eq_none_iff.mpr (by rw [List.length_range]; omega), List.getElem?_eq_none_iff.mpr (by omega)]
    rfl
end Kx
namespace Kx
open PySem PySem.Spec L2 Da
structure Lot (n : Nat) (W : List Int) : Prop where
  len : W.length = n
  rg : ∀ x ∈ W, 0 ≤ x ∧ x ≤ 1000
  pos : 0 < W.sum
def wt (W : List Int) (w : Int) : Int := W.getD w.toNat 0
section
variable {n : Nat} {N : List (List Int)} {L : List (Int × Int)} {R : List (List (List Int))} {W : List Int} {leg u w o x : Int}
theorem Lot.ix (h : Lot n W) (hw : Nd n w) : ixR W w = .ok (wt W w) := by
  obtain ⟨k, rfl, hk⟩ := hw.nat
  unfold wt
  rw [Int.toNat_natCast]
  exact ixR_nat (getD_some (by rw [h.len]; exact hk))
theorem Lot.wt (h : Lot n W) (hw : Nd n w) : 0 ≤ wt W w ∧ Kx.wt W w ≤ 1000 := by
  obtain ⟨k, rfl, hk⟩ := hw.nat
  refine h.rg _ (List.mem_of_getElem? (i := k) ?_)
  unfold Kx.wt
  rw [Int.toNat_natCast]
  exact getD_some (by rw [h.len]; exact hk)
theorem Lot.sum (h : Lot n W) : W.sum = sI (upto n) (Kx.wt W) := by
  have := upto_map 0 W
  rw [h.len] at this
  show W.sum = ((upto n).map fun v => W.getD v.toNat 0).sum
  rw [this]
theorem Lot.sum_le (h : Lot n W) (hn : n ≤ 24) : W.sum ≤ 24000 := by
  rw [h.sum]
  have := sI_le (xs := upto n) (f := Kx.wt W) (g := fun _ => 1000) fun x hx => (h.wt (mem_upto.mp hx)).2
  rw [sI_const, upto_length] at this
  omega
theorem any_lot {row : List Int} (h0 : 0 < n) (hn : n ≤ 24) (hd : Digs ([3] ++ List.replicate n 1001) row) : Tr (N_law_any_lot_i_li (n : Int) row) (Lot n) := by
  have hl : row.length = n + 1 := by rw [hd.1]; simp
  obtain ⟨k, ek, k0, k1⟩ := hd.ix (i := 0) (s := 3) rfl
  have hr : ∀ w : Int, Nd n w → ∃ r, ixR row (1 + w) = .ok r ∧ 0 ≤ r ∧ r < 1001 := fun w hw => by
    obtain ⟨j, rfl, hj⟩ := hw.nat
    rw [show 1 + (j : Int) = ((j + 1 : Nat) : Int) by omega]
    exact hd.ix (by rw [List.getElem?_append_right (by simp), List.getElem?_replicate, if_pos (by simp; omega)])
  have ek : ixR row 0 = .ok k := ek
  unfold N_law_any_lot_i_li
  rw [rngR_nat (by omega)]
  dsimp only [Res.bind_ok]
  rw [lcR_map (g := fun _ => (1 : Int)) (by rw [upto_length]; omega) fun _ _ => rfl, ek]
  dsimp only [Res.bind_ok]
  -- what a row of small numbers is
  have fin : ∀ W : List Int, W.length = n → (∀ x ∈ W, 0 ≤ x ∧ x ≤ 1000) → Tr ((if decide (W.sum = 0) = true then ((setR W ((n : Int) - 1) 1000).bind fun x44 => Res.ok x44) else Res.ok W).bind fun x45 => Res.ok x45) (Lot n) := fun W wl wr => by
    have wt : ∀ V : List Int, (∀ x ∈ V, 0 ≤ x) → 0 ≤ V.sum ∧ ∀ x ∈ V, x ≤ V.sum := fun V => by
      induction V with
      | nil => exact fun _ => ⟨Int.le_refl _, fun x m => nomatch m⟩
      | cons y V ih =>
        intro hV
        obtain ⟨a, b⟩ := ih fun x hx => hV x (List.mem_cons_of_mem _ hx)
        have hy := hV y List.mem_cons_self
        rw [List.sum_cons]
        refine ⟨by omega, fun x hx => ?_⟩
        rcases List.mem_cons.mp hx with rfl | hx
        · omega
        · have := b x hx
          omega
    by_cases c : W.sum = 0
    · rw [if_pos (decide_eq_true c), show (n : Int) - 1 = ((n - 1 : Nat) : Int) by omega, setR_nat (by omega)]
      have hm : ∀ x ∈ W.set (n - 1) 1000, 0 ≤ x ∧ x ≤ 1000 := fun x hx => by
        rcases List.mem_or_eq_of_mem_set hx with m | rfl
        · exact wr x m
        · omega
      refine Tr.ok ⟨by rw [List.length_set]; exact wl, hm, ?_⟩
      have := (wt (W.set (n - 1) 1000) fun x hx => (hm x hx).1).2 1000 (List.mem_of_getElem? (i := n - 1) (by rw [List.getElem?_set, if_pos rfl, if_pos (by omega)]))
      omega
    · rw [if_neg (by rw [decide_eq_false c]; decide)]
      have := (wt W fun x hx => (wr x hx).1).1
      exact Tr.ok ⟨wl, wr, by omega⟩
  refine Tr.bind (Q := fun W => W.length = n ∧ ∀ x ∈ W, 0 ≤ x ∧ x ≤ 1000) ?_ fun W1 ⟨l1, q1⟩ => ?_
  · refine Tr.ite (fun _ => ?_) fun _ => ?_
    · rw [Res.bind_ret]
      refine tr_lcm (fun _ y => 0 ≤ y ∧ y ≤ 1000) (by rw [upto_length]; omega) (fun w hw => ?_) fun ys hl hy => ⟨by rw [hl, upto_length], fun x hx => ?_⟩
      · obtain ⟨r, er, r0, r1⟩ := hr w (mem_upto.mp hw)
        rw [er]
        exact Tr.ok (by omega)
      · obtain ⟨i, hi⟩ := List.mem_iff_getElem?.mp hx
        have il := (List.getElem?_eq_some_iff.mp hi).1
        obtain ⟨y, ey, hy⟩ := hy i _ (List.getElem?_eq_getElem (show i < (upto n).length by omega))
        rw [hi] at ey
        injection ey with ey
        rw [ey]
        exact hy
    · exact Tr.ok ⟨by rw [List.length_map, upto_length], fun x hx => by
        obtain ⟨_, _, rfl⟩ := List.mem_map.mp hx
        omega⟩
  · refine Tr.bind (Q := fun W => W.length = n ∧ ∀ x ∈ W, 0 ≤ x ∧ x ≤ 1000) ?_ fun W2 ⟨l2, q2⟩ => fin W2 l2 q2
    refine Tr.ite (fun _ => ?_) fun _ => Tr.ok ⟨l1, q1⟩
    rw [Res.bind_ret]
    refine tr_lcm (fun _ y => 0 ≤ y ∧ y ≤ 1000) (by rw [upto_length]; omega) (fun w hw => ?_) fun ys hl hy => ⟨by rw [hl, upto_length], fun x hx => ?_⟩
    · obtain ⟨r, er, r0, r1⟩ := hr w (mem_upto.mp hw)
      rw [er]
      exact Tr.ok (by omega)
    · obtain ⟨i, hi⟩ := List.mem_iff_getElem?.mp hx
      have il := (List.getElem?_eq_some_iff.mp hi).1
      obtain ⟨y, ey, hy⟩ := hy i _ (List.getElem?_eq_getElem (show i < (upto n).length by omega))
      rw [hi] at ey
      injection ey with ey
      rw [ey]
      exact hy
end
end Kx
namespace Kx
open PySem PySem.Spec L2 Da
theorem law_day {n : Nat} {r : List Int} (hn : n ≤ 1000000) (hr : n ≤ r.length) (h0 : ∀ x ∈ r, 0 ≤ x) : ∃ p : List Int, N_law_day_i_li n r = .ok p ∧ p.Perm (upto n) := by
  unfold N_law_day_i_li
  rw [rngR_nat (by omega)]
  simp only [Res.bind_ok, Res.bind_assoc, Res.bind_ret]
  rw [lcR_map (g := fun x => x) (by rw [upto_length]; exact hn) (fun _ _ => rfl), List.map_id']
  dsimp only [Res.bind_ok]
  obtain ⟨s, e, hp, hl⟩ := forR_upto (n := n) (s := (upto n, ([] : List Int))) (f := fun x4 x5 => (nx ((nx ((ixR r x5).bind fun x => modR x (x4.1.length : Int))).bind fun x8 => popR x4.1 x8)).bind fun v => (appR x4.2 v.1).bind fun x => Res.ok (v.2, x))
    (fun i s => (s.2 ++ s.1).Perm (upto n) ∧ s.2.length = i) ⟨List.Perm.refl _, rfl⟩ fun i s hi hp => by
      obtain ⟨hp, hl⟩ := hp
      have hL := hp.length_eq
      rw [List.length_append, upto_length] at hL
      have a := List.getElem?_eq_getElem (show i < r.length by omega)
      have hri := h0 _ (List.getElem_mem (show i < r.length by omega))
      have hz : 0 ≤ r[i]'(by omega) % (s.1.length : Int) ∧ r[i]'(by omega) % (s.1.length : Int) < s.1.length := ⟨Int.emod_nonneg _ (by omega), Int.emod_lt_of_pos _ (by omega)⟩
      rw [ixR_nat a]; dsimp only [Res.bind_ok]
      rw [modR_pos (by omega)]; dsimp only [Res.bind_ok, nx_ok]
      rw [popR_of hz.1 hz.2 (by omega)]; dsimp only [Res.bind_ok, nx_ok]
      rw [appR_ok (by omega)]
      refine ⟨_, rfl, ?_, by dsimp only; rw [List.length_append, hl]; rfl⟩
      dsimp only
      rw [List.append_assoc]
      exact (List.Perm.append_left s.2 (take_out' (by omega))).trans hp
  rw [e]
  refine ⟨s.2, rfl, ?_⟩
  have hL := hp.length_eq
  rw [List.length_append, upto_length] at hL
  have : s.1 = [] := List.eq_nil_of_length_eq_zero (by omega)
  rw [this, List.append_nil] at hp
  exact hp
end Kx
namespace Kx
open PySem PySem.Spec L2 Da
variable {n : Nat} {W : List Int} {M : List (List Rat)} {L B : Nat}
/-- small bounds -/
structure BdT (n L B : Nat) : Prop where
  n0 : 0 < n
  n12 : n ≤ 12
  l0 : 0 < L
  l1 : L ≤ 1000000
  b1 : B ≤ 100000000
def wtq (W : List Int) (u : Nat) : Rat := ((wt W (u : Int) : Int) : Rat)
def Sq0 (W : List Int) : Rat := ((W.sum : Int) : Rat)
/-- the mean of f under the lot -/
def wm (n : Nat) (W : List Int) (f : Nat → Rat) : Rat := SS n (fun u => f u * wtq W u) / Sq0 W
theorem sq0_ne (hW : Lot n W) : Sq0 W ≠ 0 := by
  have := hW.pos
  intro z
  have : W.sum = 0 := by unfold Sq0 at z; exact_mod_cast z
  omega
theorem sum_nat (hW : Lot n W) : ((W.sum.toNat : Nat) : Int) = W.sum := Int.toNat_of_nonneg (by have := hW.pos; omega)
theorem wt_in (hW : Lot n W) {u : Nat} (hu : u < n) : In 1 1000 (wtq W u) := by
  have := hW.wt (Nd.of hu)
  refine ⟨wt W (u : Int), ?_, by omega⟩
  unfold wtq
  have : (((1 : Nat) : Int) : Rat) = 1 := rfl
  rw [this]; grind
theorem wt_list (hW : Lot n W) : W = (List.range n).map fun u : Nat => wt W (u : Int) := by
  refine List.ext_getElem? fun i => ?_
  rw [List.getElem?_map]
  by_cases hi : i < n
  · rw [List.getElem?_range hi, getD_some (d := 0) (show i < W.length by rw [hW.len]; exact hi)]
    unfold wt
    rw [Option.map_some, Int.toNat_natCast]
  · rw [List.getElem?_eq_none (by rw [hW.len]; omega), List.getElem?_eq_none (by rw [List.length_range]; omega)]
    rfl
theorem wm_in (hb : BdT n L B) (hW : Lot n W) {f : Nat → Rat} (hf : ∀ u, u < n → In L B (f u)) : In (L * 1 * W.sum.toNat) (n * (B * 1000)) (wm n W f) := by
  have hs := sum_nat hW
  have hq := hW.pos
  have h1 : In (L * 1) (n * (B * 1000)) (SS n fun u => f u * wtq W u) := by
    have := In.sumAll (L := L * 1) (B := B * 1000) (qs := (List.range n).map fun u => f u * wtq W u) fun q hq => by
      obtain ⟨u, hu, rfl⟩ := List.mem_map.mp hq
      have hu := List.mem_range.mp hu
      exact (hf u hu).mul (wt_in hW hu) hb.l0 (by decide)
    rwa [List.length_map, List.length_range] at this
  have h2 := In.div h1 W.sum.toNat (by have := hb.l0; omega) (by omega)
  rw [hs] at h2
  exact h2
theorem wm_sm (hb : BdT n L B) (hW : Lot n W) {f : Nat → Rat} (hf : ∀ u, u < n → In L B (f u)) : Sm (wm n W f) := by
  have h := wm_in hb hW hf
  have hs := hW.sum_le (show n ≤ 24 by have := hb.n12; omega)
  have hq := hW.pos
  obtain ⟨a1, a2, a3, a4, a5⟩ := hb
  have m1 : L * 1 * W.sum.toNat ≤ 1000000 * 24000 := Nat.mul_le_mul (by omega) (by omega)
  have m2 : n * (B * 1000) ≤ 12 * (100000000 * 1000) := Nat.mul_le_mul a2 (Nat.mul_le_mul_right _ a5)
  exact h.sm64 (Nat.mul_pos (by omega) (by omega)) (by omega) (by omega)
theorem in_sm (hb : BdT n L B) {q : Rat} (h : In L B q) : Sm q := by
  obtain ⟨a1, a2, a3, a4, a5⟩ := hb
  exact h.sm64 a3 (by omega) (by omega)
theorem weighed (hb : BdT n L B) (hW : Lot n W) {f : Nat → Rat} (hf : ∀ u, u < n → In L B (f u)) : N_weighed_lpiiq_ti ((List.range n).map fun u => fq (f u)) W = .ok (fq (wm n W f)) := by
  have hs := hW.sum_le (show n ≤ 24 by have := hb.n12; omega)
  have hq := hW.pos
  have hS := sum_nat hW
  have hn := hb.n12
  unfold N_weighed_lpiiq_ti
  have ez : ((List.range n).map fun u => fq (f u)).zip W = (List.range n).map fun u : Nat => (fq (f u), wt W (u : Int)) := by
    have := List.zip_map' (f := fun u : Nat => fq (f u)) (g := fun u : Nat => wt W (u : Int)) (l := List.range n)
    rw [← wt_list hW] at this
    exact this
  rw [ez, lcR_mapp (f := fun x1 : (Int × Int) × Int => ((mulR x1.1.1 x1.2).bind fun x2 => ((mulR x1.1.2 W.sum).bind fun x3 => (N_ratio_i_i x2 x3)))) (k := fun u : Nat => (fq (f u), wt W (u : Int))) (xs := List.range n) (fun u => fq (f u * wtq W u / Sq0 W)) (by rw [List.length_range]; omega) fun u hu => by
    have hu := List.mem_range.mp hu
    have ww := hW.wt (Nd.of hu)
    have hsm := in_sm hb (hf u hu)
    dsimp only
    rw [fq_fst, fq_snd, mulR_44 hsm.1 (small44 (by omega)), mulR_44 hsm.d (small44 (by omega))]
    dsimp only [Res.bind_ok]
    rw [← hS, ratio_q (den_k_pos (f u) (by omega)) (den_k_lim hsm (by omega)), hS]
    refine congrArg Res.ok (congrArg fq ?_)
    have hd : ((f u).den : Rat) ≠ 0 := by have := (f u).den_pos; exact_mod_cast (by omega : (f u).den ≠ 0)
    have e1 : ((f u).num : Rat) = f u * ((f u).den : Rat) := by
      have := num_den (f u) (k := 1)
      rw [Int.mul_one] at this
      have e9 : ((1 : Int) : Rat) = 1 := rfl
      have e8 : (((f u).den : Int) : Rat) = ((f u).den : Rat) := rfl
      rw [e9, e8] at this
      grind
    rw [Rat.intCast_mul, Rat.intCast_mul, e1]
    have hz := sq0_ne hW
    unfold Sq0 at hz ⊢
    unfold wtq
    have e2 : (((f u).den : Int) : Rat) = ((f u).den : Rat) := rfl
    rw [e2]
    grind]
  dsimp only [Res.bind_ok]
  have em : ((List.range n).map fun u : Nat => fq (f u * wtq W u / Sq0 W)) = ((List.range n).map fun u : Nat => f u * wtq W u / Sq0 W).map fq := by rw [List.map_map]; rfl
  obtain ⟨a1, a2, a3, a4, a5⟩ := hb
  have m1 : L * 1 * W.sum.toNat ≤ 1000000 * 24000 := Nat.mul_le_mul (by omega) (by omega)
  have m2 : (n + 1) * (B * 1000) ≤ 13 * (100000000 * 1000) := Nat.mul_le_mul (by omega) (Nat.mul_le_mul_right _ a5)
  rw [em, fraction_sum_q (L := L * 1 * W.sum.toNat) (B := B * 1000) (Nat.mul_pos (by omega) (by omega)) (small44 (by omega)) (by rw [List.length_map, List.length_range]; exact small44 (by omega)) fun q hq' => by
    obtain ⟨u, hu, rfl⟩ := List.mem_map.mp hq'
    have hu := List.mem_range.mp hu
    have h2 := In.div ((hf u hu).mul (wt_in hW hu) a3 (by decide)) W.sum.toNat (by omega) (by omega)
    rw [hS] at h2
    exact h2]
  exact congrArg Res.ok (congrArg fq (SS_div n (Sq0 W) fun u => f u * wtq W u))
theorem weighed_t (hb : BdT n L B) (hW : Lot n W) {f : Nat → Rat} (hf : ∀ u, u < n → In L B (f u)) : N_weighed_tpiiq_ti ((List.range n).map fun u => fq (f u)) W = .ok (fq (wm n W f)) := weighed hb hW hf
theorem law_weighed (hb : BdT n L B) (hW : Lot n W) {f : Nat → Rat} (hf : ∀ u, u < n → In L B (f u)) : N_law_weighed_lpiiq_li ((List.range n).map fun u => fq (f u)) W = .ok (fq (wm n W f)) := by
  have hs := hW.sum_le (show n ≤ 24 by have := hb.n12; omega)
  have hq := hW.pos
  have hS := sum_nat hW
  have hn := hb.n12
  have hb' := hb
  obtain ⟨a1, a2, a3, a4, a5⟩ := hb
  unfold N_law_weighed_lpiiq_li
  rw [hW.len, rngR_nat (by omega)]
  dsimp only [Res.bind_ok]
  have part : ∀ i : Nat, i ≤ n → In (L * 1) (i * (B * 1000)) (SS i fun u => f u * wtq W u) := fun i hi => by
    have := In.sumAll (L := L * 1) (B := B * 1000) (qs := (List.range i).map fun u => f u * wtq W u) fun q hq => by
      obtain ⟨u, hu, rfl⟩ := List.mem_map.mp hq
      have hu := List.mem_range.mp hu
      exact (hf u (by omega)).mul (wt_in hW (by omega)) a3 (by decide)
    rwa [List.length_map, List.length_range] at this
  have psm : ∀ i : Nat, i ≤ n → Sm (SS i fun u => f u * wtq W u) := fun i hi => by
    have m2 : i * (B * 1000) ≤ 12 * (100000000 * 1000) := Nat.mul_le_mul (by omega) (Nat.mul_le_mul_right _ a5)
    exact (part i hi).sm64 (by omega) (by omega) (by omega)
  refine Tr.eq (Tr.bind (tr_forRn (Q := fun s => s = fq (SS n fun u => f u * wtq W u)) (fun i s => s = fq (SS i fun u => f u * wtq W u)) rfl (fun i s hi hs' => ?_) fun s hs' => hs') fun s hs' => ?_)
  · have ei : ixR ((List.range n).map fun u => fq (f u)) (i : Int) = .ok (fq (f i)) := ixR_nat (by rw [List.getElem?_map, List.getElem?_range hi]; rfl)
    rw [ei, hW.ix (Nd.of hi)]
    dsimp only [Res.bind_ok]
    have ep : ((wt W (i : Int), 1) : Int × Int) = fq (wtq W i) := rfl
    rw [ep, law_timed_q (in_sm hb' (hf i hi)) ((wt_in hW hi).sm64 (by decide) (by decide) (by decide))]
    dsimp only [Res.bind_ok]
    rw [hs', law_added_q (psm i (by omega)) (((hf i hi).mul (wt_in hW hi) a3 (by decide)).sm64 (by omega) (by omega) (by omega))]
    refine Tr.ok ?_
    unfold SS
    rw [List.range_succ, List.map_append, sumQ_append]
    simp only [List.map_cons, List.map_nil]
    rw [sumQ_cons, sumQ_nil]
    grind
  · rw [hs', fq_snd, fq_fst]
    have hsm := psm n (Nat.le_refl _)
    rw [mulR_44 hsm.d (small44 (by omega))]
    dsimp only [Res.bind_ok]
    rw [← hS, law_fraction (den_k_pos _ (by omega)) (Nat.lt_of_lt_of_le hsm.1 lim44) (den_k_lim hsm (by omega)), num_den, hS]
    exact Tr.ok rfl
end Kx
namespace Kx
open PySem PySem.Spec L2 Da
variable {n : Nat} {W : List Int} {M : List (List Rat)} {L B : Nat}
theorem mat_qm {f : Nat → Nat → Rat} : qm (mat n f) = (List.range n).map fun u => (List.range n).map fun v => fq (f u v) := by
  unfold qm mat
  rw [List.map_map]
  refine List.map_congr_left fun u _ => ?_
  show ((List.range n).map fun v => f u v).map fq = _
  rw [List.map_map]
  rfl
theorem qm_rows (h : Sq M n) : qm M = (List.range n).map fun u => (List.range n).map fun v => fq (at2 M u v) := by
  have e := mat_eq h
  have := mat_qm (n := n) (f := at2 M)
  rw [← e] at this
  exact this
/-- the means of a row, of a column -/
def wR (n : Nat) (W : List Int) (M : List (List Rat)) (u : Nat) : Rat := wm n W fun v => at2 M u v
def wC (n : Nat) (W : List Int) (M : List (List Rat)) (v : Nat) : Rat := wm n W fun u => at2 M u v
theorem frozen_tp (r : List (Int × Int)) (h : r.length ≤ 1000000) : N_frozen_tpiiq r = .ok r := by
  unfold N_frozen_tpiiq
  rw [lcR_map (f := fun x1 => N_frozen_piiq x1) (g := fun x => x) h fun _ _ => rfl, List.map_id']
  rfl
theorem frozen_ttp (r : List (List (Int × Int))) (h : r.length ≤ 1000000) (h2 : ∀ x ∈ r, x.length ≤ 1000000) : N_frozen_ttpiiq r = .ok r := by
  unfold N_frozen_ttpiiq
  rw [lcR_map (f := fun x1 => N_frozen_tpiiq x1) (g := fun x => x) h fun x hx => frozen_tp x (h2 x hx), List.map_id']
  rfl
theorem table_t (h : Sq M n) (hn : n ≤ 1000) : N_Table_init_ttpiiq (qm M) = .ok (qm M, (n : Int)) := by
  have h1 : (qm M).length = n := by rw [qm_len, h.len]
  have h2 : ∀ x ∈ qm M, x.length = n := fun x hx => by
    obtain ⟨r, hr, rfl⟩ := List.mem_map.mp hx
    rw [List.length_map]
    exact h.row r hr
  unfold N_Table_init_ttpiiq
  rw [frozen_ttp _ (by omega) fun x hx => by rw [h2 x hx]; omega]
  dsimp only [Res.bind_ok]
  rw [checked_rows h1 h2 (by omega)]
  dsimp only [Res.bind_ok]
  rw [h1]
theorem turned_ok (h : Sq M n) (hn : n ≤ 1000) : N_Table_turned_cTablettpiiqiq (qm M, (n : Int)) = .ok (qm (trn M n), (n : Int)) := by
  unfold N_Table_turned_cTablettpiiqiq
  dsimp only
  rw [turned_rows h (by omega)]
  dsimp only [Res.bind_ok]
  exact table_t mat_sq hn
theorem checked_lot_t (h : Lot n W) (hn : n ≤ 24) : N_checked_lot_ti_i W (n : Int) = .ok W := by
  have hl := h.len
  unfold N_checked_lot_ti_i
  rw [frozen_t W (by omega)]
  dsimp only [Res.bind_ok]
  rw [if_neg (by rw [hl]; simp), lcR_map (g := fun x => (decide (0 ≤ x)) && (decide (x ≤ 1000))) (by omega) fun x _ => rfl]
  dsimp only [Res.bind_ok]
  have e : (W.map fun x => (decide (0 ≤ x)) && (decide (x ≤ 1000))).all id = true := by
    rw [List.all_map, List.all_eq_true]
    intro x hx
    have := h.rg x hx
    simp [this.1, this.2]
  rw [e]
  have := h.pos
  rw [if_neg (by decide)]
  dsimp only [Res.bind_ok]
  rw [decide_eq_false (show ¬ W.sum = 0 by omega)]
  rfl
def hwM (n : Nat) (W : List Int) (M : List (List Rat)) : List (List Rat) := mat n fun u v => wR n W M u + wC n W M v
theorem wR_sm (hb : BdT n L B) (h : Sq M n) (hI : AllIn L B M) (hW : Lot n W) {u : Nat} (hu : u < n) : Sm (wR n W M u) := wm_sm hb hW fun v hv => at_in h hI hu hv
theorem wC_sm (hb : BdT n L B) (h : Sq M n) (hI : AllIn L B M) (hW : Lot n W) {v : Nat} (hv : v < n) : Sm (wC n W M v) := wm_sm hb hW fun u hu => at_in h hI hu hv
/-- rows of means; columns of means -/
theorem row_means (hb : BdT n L B) (h : Sq M n) (hI : AllIn L B M) (hW : Lot n W) {g : List (Int × Int) → Res (Int × Int)} (hg : ∀ f : Nat → Rat, (∀ u, u < n → In L B (f u)) → g ((List.range n).map fun u => fq (f u)) = .ok (fq (wm n W f))) :
    lcR (qm M) (fun _ => Res.ok true) g = .ok ((List.range n).map fun u => fq (wR n W M u)) := by
  have hn := hb.n12
  rw [qm_rows h]
  exact lcR_mapp (k := fun u => (List.range n).map fun v => fq (at2 M u v)) (fun u => fq (wR n W M u)) (by rw [List.length_range]; omega) fun u hu => hg _ fun v hv => at_in h hI (List.mem_range.mp hu) hv
theorem trn_wR (v : Nat) (hv : v < n) : wR n W (trn M n) v = wC n W M v := by
  unfold wR wC wm
  congr 1
  exact SS_congr fun u hu => by
    dsimp only
    rw [show at2 (trn M n) v u = at2 M u v from mat_at hv hu]
theorem col_means (hb : BdT n L B) (h : Sq M n) (hI : AllIn L B M) (hW : Lot n W) {g : List (Int × Int) → Res (Int × Int)} (hg : ∀ f : Nat → Rat, (∀ u, u < n → In L B (f u)) → g ((List.range n).map fun u => fq (f u)) = .ok (fq (wm n W f))) :
    lcR (qm (trn M n)) (fun _ => Res.ok true) g = .ok ((List.range n).map fun v => fq (wC n W M v)) := by
  rw [row_means (M := trn M n) hb mat_sq (trn_in h hI) hW hg]
  refine congrArg Res.ok (List.map_congr_left fun v hv => ?_)
  rw [trn_wR v (List.mem_range.mp hv)]
/-- all sums of one of each -/
theorem cross {a b : Nat → Rat} (hn : n ≤ 1000) (ha : ∀ u, u < n → Sm (a u)) (hb : ∀ u, u < n → Sm (b u)) {add : Int × Int → Int × Int → Res (Int × Int)} (hadd : ∀ p q, Sm p → Sm q → add (fq p) (fq q) = .ok (fq (p + q))) :
    lcR ((List.range n).map fun u => fq (a u)) (fun _ => Res.ok true) (fun x => lcR ((List.range n).map fun v => fq (b v)) (fun _ => Res.ok true) (fun y => add x y)) = .ok (qm (mat n fun u v => a u + b v)) := by
  rw [mat_qm]
  exact lcR_mapp (k := fun u => fq (a u)) (fun u => (List.range n).map fun v => fq (a u + b v)) (by rw [List.length_range]; omega) fun u hu => lcR_mapp (k := fun v => fq (b v)) (fun v => fq (a u + b v)) (by rw [List.length_range]; omega) fun v hv => hadd _ _ (ha u (List.mem_range.mp hu)) (hb v (List.mem_range.mp hv))
theorem halfway (hb : BdT n L B) (h : Sq M n) (hI : AllIn L B M) (hW : Lot n W) : N_halfway_table_cTablettpiiqiq_li (qm M, (n : Int)) W = .ok (qm (hwM n W M), (n : Int)) := by
  have hn := hb.n12
  unfold N_halfway_table_cTablettpiiqiq_li
  dsimp only
  rw [frozen_li (by have := hW.len; omega)]
  dsimp only [Res.bind_ok]
  rw [checked_lot_t hW (by omega)]
  dsimp only [Res.bind_ok]
  rw [row_means hb h hI hW (g := fun x3 => N_weighed_tpiiq_ti x3 W) fun f hf => weighed_t hb hW hf, turned_ok h (by omega)]
  dsimp only [Res.bind_ok]
  rw [col_means hb h hI hW (g := fun x3 => N_weighed_tpiiq_ti x3 W) fun f hf => weighed_t hb hW hf]
  dsimp only [Res.bind_ok]
  rw [cross (add := fun x y => N_added_piiq_piiq x y) (by omega) (fun u hu => wR_sm hb h hI hW hu) (fun v hv => wC_sm hb h hI hW hv) fun p q hp hq => added_q hp hq]
  dsimp only [Res.bind_ok]
  exact table_qm mat_sq (by omega)
/-- the constant load -/
def cl (n : Nat) (W : List Int) (M : List (List Rat)) : Rat := wm n W fun u => rowS M n u + colS M n u
theorem rowS_in (h : Sq M n) (hI : AllIn L B M) {u : Nat} (hu : u < n) : In L (n * B) (rowS M n u) := by
  have := In.sumAll (L := L) (B := B) (qs := (List.range n).map fun v => at2 M u v) fun q hq => by
    obtain ⟨v, hv, rfl⟩ := List.mem_map.mp hq
    exact at_in h hI hu (List.mem_range.mp hv)
  rwa [List.length_map, List.length_range] at this
theorem colS_in (h : Sq M n) (hI : AllIn L B M) {u : Nat} (hu : u < n) : In L (n * B) (colS M n u) := by
  have := In.sumAll (L := L) (B := B) (qs := (List.range n).map fun v => at2 M v u) fun q hq => by
    obtain ⟨v, hv, rfl⟩ := List.mem_map.mp hq
    exact at_in h hI (List.mem_range.mp hv) hu
  rwa [List.length_map, List.length_range] at this
/-- sums of lines are small, too -/
structure BdU (n L B : Nat) : Prop where
  bd : BdT n L B
  b2 : B ≤ 1000000
theorem BdU.lines (hb : BdU n L B) : BdT n L (n * B + n * B) := by
  obtain ⟨⟨a1, a2, a3, a4, a5⟩, b2⟩ := hb
  have : n * B ≤ 12 * 1000000 := Nat.mul_le_mul a2 b2
  exact ⟨a1, a2, a3, a4, by omega⟩
theorem lines_in (h : Sq M n) (hI : AllIn L B M) {u : Nat} (hu : u < n) : In L (n * B + n * B) (rowS M n u + colS M n u) := (rowS_in h hI hu).add (colS_in h hI hu)
theorem BdU.s44 (hb : BdU n L B) : (n + 1) * B < 2 ^ 4400 ∧ L < 2 ^ 4400 ∧ (n + 1) * ((n + 1) * B) < 2 ^ 4400 := by
  obtain ⟨⟨a1, a2, a3, a4, a5⟩, b2⟩ := hb
  have m1 : (n + 1) * B ≤ 13 * 1000000 := Nat.mul_le_mul (by omega) b2
  have m2 : (n + 1) * ((n + 1) * B) ≤ 13 * (13 * 1000000) := Nat.mul_le_mul (by omega) m1
  exact ⟨small44 (by omega), small44 (by omega), small44 (by omega)⟩
theorem const_gen (hb : BdU n L B) (h : Sq M n) (hI : AllIn L B M) (hW : Lot n W) {g : Res (List Int)} (hg : g = .ok W) :
    (g.bind fun x2 =>
  ((((nx (N_Table_row_sums_cTablettpiiqiq (qm M, (n : Int)))).bind fun x3 => ((nx (N_Table_column_sums_cTablettpiiqiq (qm M, (n : Int)))).bind fun x4 => (Res.ok (x3.zip x4)))).bind fun x6 => lcR x6 (fun x5 => Res.ok true) (fun x5 => (N_added_piiq_piiq x5.1 x5.2))).bind fun x7 =>
  (N_weighed_lpiiq_ti x7 x2))) = .ok (fq (cl n W M)) := by
  obtain ⟨s1, s2, s3⟩ := hb.s44
  have hn := hb.bd.n12
  have l0 := hb.bd.l0
  have hl := hb.lines
  rw [hg]
  dsimp only [Res.bind_ok]
  rw [row_sums h hI (by omega) l0 s2 s1, column_sums h hI (by omega) l0 s2 s1]
  dsimp only [Res.bind_ok, nx_ok]
  rw [List.zip_map']
  rw [lcR_mapp (f := fun x5 : (Int × Int) × (Int × Int) => N_added_piiq_piiq x5.1 x5.2) (k := fun u : Nat => (fq (rowS M n u), fq (colS M n u))) (xs := List.range n) (fun u => fq (rowS M n u + colS M n u)) (by rw [List.length_range]; omega) fun u hu => by
    have hu := List.mem_range.mp hu
    have i1 : In L (n * B + n * B) (rowS M n u) := (rowS_in h hI hu).le (by omega)
    have i2 : In L (n * B + n * B) (colS M n u) := (colS_in h hI hu).le (by omega)
    exact added_q (in_sm hl i1) (in_sm hl i2)]
  dsimp only [Res.bind_ok]
  exact weighed hl hW fun u hu => lines_in h hI hu
theorem const_li (hb : BdU n L B) (h : Sq M n) (hI : AllIn L B M) (hW : Lot n W) : N_constant_load_cTablettpiiqiq_li (qm M, (n : Int)) W = .ok (fq (cl n W M)) := by
  have hn := hb.bd.n12
  refine const_gen hb h hI hW ?_
  rw [frozen_li (by have := hW.len; omega)]
  exact checked_lot_t hW (by omega)
theorem const_ti (hb : BdU n L B) (h : Sq M n) (hI : AllIn L B M) (hW : Lot n W) : N_constant_load_cTablettpiiqiq_ti (qm M, (n : Int)) W = .ok (fq (cl n W M)) := by
  have hn := hb.bd.n12
  refine const_gen hb h hI hW ?_
  rw [frozen_t W (by have := hW.len; omega)]
  exact checked_lot_t hW (by omega)
/-- which is the day sum of the halfway table -/
theorem wm_add (f g : Nat → Rat) : wm n W (fun u => f u + g u) = wm n W f + wm n W g := by
  unfold wm
  rw [SS_congr (g := fun u => f u * wtq W u + g u * wtq W u) fun u _ => by grind, SS_add]
  grind
theorem wm_sum (f : Nat → Nat → Rat) : SS n (fun u => wm n W (f u)) = wm n W fun v => SS n fun u => f u v := by
  unfold wm
  rw [SS_div, SS_swap]
  congr 1
  exact SS_congr fun v _ => by
    rw [SS_congr (g := fun u => wtq W v * f u v) fun u _ => Rat.mul_comm _ _, SS_mul, Rat.mul_comm]
theorem half_day (h : Sq M n) {d : List Int} (hd : d.Perm (upto n)) : daySum (hwM n W M) d = cl n W M := by
  rw [daySum_eq (perm_day hd)]
  have hdu : ∀ u, u < n → dU d u < n := fun u hu => by
    have dl : d.length = n := by rw [hd.length_eq, upto_length]
    have e := getD_some (xs := d) (d := 0) (show u < d.length by omega)
    have := mem_upto.mp (hd.mem_iff.mp (List.mem_of_getElem? e))
    show (d.getD u 0).toNat < n
    omega
  show SS n (fun u => at2 (hwM n W M) u (dU d u)) = _
  rw [SS_congr (g := fun u => wR n W M u + wC n W M (dU d u)) fun u hu => mat_at hu (hdu u hu), SS_add, perm_sum hd (wC n W M)]
  unfold cl wR wC
  rw [wm_sum, wm_sum, wm_add]
  show _ = wm n W (fun u => rowS M n u) + wm n W fun u => colS M n u
  rw [Rat.add_comm]
  rfl
end Kx
namespace Kx
open PySem PySem.Spec L2 Da
theorem rows2 (a : Int) (b : List Int) : N_law_table_rows2_i_li a b = N_law_table_rows_i_li a b := rfl
theorem split2 (a : Int) (b : List Int) : N_law_split_rows2_i_li a b = N_law_split_rows_i_li a b := rfl
theorem over_in {b : Int} (h0 : 1 ≤ b) (h1 : b ≤ 5) : ((1, b) : Int × Int) = fq ((1 : Rat) / (b : Rat)) ∧ In 60 60 ((1 : Rat) / (b : Rat)) := by
  rcases (show b = 1 ∨ b = 2 ∨ b = 3 ∨ b = 4 ∨ b = 5 by omega) with rfl | rfl | rfl | rfl | rfl
  · exact ⟨by decide +kernel, 60, by decide +kernel, by decide⟩
  · exact ⟨by decide +kernel, 30, by decide +kernel, by decide⟩
  · exact ⟨by decide +kernel, 20, by decide +kernel, by decide⟩
  · exact ⟨by decide +kernel, 15, by decide +kernel, by decide⟩
  · exact ⟨by decide +kernel, 12, by decide +kernel, by decide⟩
theorem drawn (ns : List Int) : Tr (N_law_drawn_rows2_fi ns) fun r => ∃ (n : Nat) (M : List (List Rat)), r = qm M ∧ 0 < n ∧ n ≤ 12 ∧ Sq M n ∧ AllIn 60 7000 M := by
  unfold N_law_drawn_rows2_fi
  obtain ⟨c0, e0⟩ := law_cell ns 0 (by omega) (by omega)
  obtain ⟨c1, e1⟩ := law_cell ns 1 (by omega) (by omega)
  rw [e0, e1]
  dsimp only [Res.bind_ok]
  obtain ⟨r0, d0, h0⟩ := law_digits c0 [7, 5, 60, 60, 7, 2] (by decide) (by decide)
  rw [d0]
  dsimp only [Res.bind_ok]
  obtain ⟨k0, ek0, k00, k01⟩ := h0.ix (i := 0) (s := 7) rfl
  obtain ⟨k1, ek1, k10, k11⟩ := h0.ix (i := 1) (s := 5) rfl
  obtain ⟨k2, ek2, k20, k21⟩ := h0.ix (i := 2) (s := 60) rfl
  obtain ⟨k3, ek3, k30, k31⟩ := h0.ix (i := 3) (s := 60) rfl
  obtain ⟨k4, ek4, k40, k41⟩ := h0.ix (i := 4) (s := 7) rfl
  obtain ⟨k5, ek5, k50, k51⟩ := h0.ix (i := 5) (s := 2) rfl
  rw [show ixR r0 0 = .ok k0 from ek0, show ixR r0 1 = .ok k1 from ek1, show ixR r0 2 = .ok k2 from ek2, show ixR r0 3 = .ok k3 from ek3, show ixR r0 4 = .ok k4 from ek4, show ixR r0 5 = .ok k5 from ek5]
  dsimp only [Res.bind_ok]
  have sz : ((repR [(40 : Int), 9] 25).bind fun x5 => catR [7] x5) = .ok tabSizes := by
    rw [repR_ok (by decide) (by decide)]
    dsimp only [Res.bind_ok]
    rw [catR_ok (by decide)]
    rfl
  rw [sz]
  dsimp only [Res.bind_ok]
  obtain ⟨r1, d1, h1⟩ := law_digits c1 tabSizes (by decide) (by decide)
  have l1 : r1.length = 51 := h1.1
  rw [d1]
  dsimp only [Res.bind_ok]
  obtain ⟨m, hm⟩ : ∃ m : Nat, 1 + k1 = (m : Int) := ⟨(1 + k1).toNat, by omega⟩
  rw [hm]
  obtain ⟨M1, t1, s1, i1⟩ := table_rows (n := m) (by omega) h1
  rw [rows2, t1]
  dsimp only [Res.bind_ok]
  refine Tr.bind (Q := fun r => ∃ M : List (List Rat), r = qm M ∧ Sq M m ∧ AllIn 60 6000 M) ?_ ?_
  · refine Tr.ite (fun _ => ?_) fun _ => Tr.ok ⟨M1, rfl, s1, fun r hr q hq => (i1 r hr q hq).le (by decide)⟩
    rw [split2, Res.bind_ret]
    exact split_rows (by omega) h1
  rintro _ ⟨M2, rfl, s2, i2⟩
  refine Tr.bind (Q := fun r : Int × List (List (Int × Int)) => ∃ (n : Nat) (M : List (List Rat)), r = ((n : Int), qm M) ∧ 0 < n ∧ n ≤ 12 ∧ Sq M n ∧ AllIn 60 6000 M) ?_ ?_
  · refine Tr.ite (fun _ => ?_) fun _ => Tr.ok ⟨m, M2, rfl, by omega, by omega, s2, i2⟩
    obtain ⟨j, hj⟩ : ∃ j : Nat, 6 + k4 = (j : Int) := ⟨(6 + k4).toNat, by omega⟩
    rw [hj, rngR_nat (by omega)]
    dsimp only [Res.bind_ok]
    have dg : ∀ i : Nat, i < 51 → 0 ≤ r1.getD i 0 ∧ r1.getD i 0 < 40 := fun i hi => by
      have e := getD_some (xs := r1) (d := 0) (show i < r1.length by omega)
      have hs : ∀ i < 51, ∃ s : Int, tabSizes[i]? = some s ∧ s ≤ 40 := by decide +kernel
      obtain ⟨s, es, hs⟩ := hs i hi
      have := h1.2 i s _ es e
      omega
    have dx : ∀ i : Nat, i < 51 → ixR r1 (i : Int) = .ok (r1.getD i 0) := fun i hi => ixR_nat (getD_some (by omega))
    rw [lcR_map (g := fun u : Int => (upto j).map fun v : Int => fq ((r1.getD (1 + u.toNat) 0 + r1.getD (1 + j + v.toNat) 0 - 20 : Int) : Rat)) (by rw [upto_length]; omega) fun u hu => by
      obtain ⟨a, rfl, ha⟩ := Nd.nat (mem_upto.mp hu)
      refine lcR_map (g := fun v : Int => fq ((r1.getD (1 + (a : Int).toNat) 0 + r1.getD (1 + j + v.toNat) 0 - 20 : Int) : Rat)) (by rw [upto_length]; omega) fun v hv => ?_
      obtain ⟨b, rfl, hb⟩ := Nd.nat (mem_upto.mp hv)
      rw [Int.toNat_natCast, Int.toNat_natCast, show 1 + (a : Int) = ((1 + a : Nat) : Int) by omega, show 1 + (j : Int) + (b : Int) = ((1 + j + b : Nat) : Int) by omega, dx _ (by omega), dx _ (by omega)]
      rfl]
    refine Tr.ok ⟨j, mat j fun u v => ((r1.getD (1 + u) 0 + r1.getD (1 + j + v) 0 - 20 : Int) : Rat), ?_, by omega, by omega, mat_sq, mat_in fun u v hu hv => ?_⟩
    · rw [mat_qm]
      unfold upto
      rw [List.map_map]
      refine congrArg _ (List.map_congr_left fun u _ => ?_)
      show (List.map _ (List.map _ _)) = _
      rw [List.map_map]
      rfl
    · have := dg (1 + u) (by omega)
      have := dg (1 + j + v) (by omega)
      exact in_int2 (by omega)
  rintro _ ⟨n, M, rfl, n0, n12, hs, hI⟩
  dsimp only
  have hI7 : AllIn 60 7000 M := fun r hr q hq => (hI r hr q hq).le (by decide)
  refine Tr.bind (Q := fun r => ∃ M : List (List Rat), r = qm M ∧ Sq M n ∧ AllIn 60 7000 M) (Tr.bind (Q := fun _ => True) (Tr.ite (fun _ => Tr.ok trivial) fun _ => Tr.ite (fun _ => Tr.ok trivial) fun _ => Tr.ok trivial) fun b _ => Tr.ite (fun _ => ?_) fun _ => Tr.ok ⟨M, rfl, hs, hI7⟩) fun r ⟨M', e, h', i'⟩ => Tr.ok ⟨n, M', e, n0, n12, h', i'⟩
  have mod : ∀ z : Int, 0 ≤ z → ∃ a : Nat, modR z (n : Int) = .ok (a : Int) ∧ a < n := fun z hz => by
    have p0 := Int.emod_nonneg z (show (n : Int) ≠ 0 by omega)
    have p1 := Int.emod_lt_of_pos z (show (0 : Int) < n by omega)
    exact ⟨(z % (n : Int)).toNat, by rw [modR_pos (by omega), Int.toNat_of_nonneg p0], by omega⟩
  obtain ⟨a, ea, ha⟩ := mod k2 k20
  obtain ⟨b, eb, hb⟩ := mod k3 k30
  rw [ea, eb]
  dsimp only [Res.bind_ok]
  unfold borK
  have er : (qm M)[a]? = some ((M.getD a []).map fq) := qm_row hs ha
  rw [borR_nat er]
  dsimp only [Res.bind_ok]
  have hrl := row_len hs ha
  have ei : ixR ((M.getD a []).map fq) (b : Int) = .ok (fq (at2 M a b)) := ixR_nat (qm_item hs ha hb)
  have hit := at_in hs hI ha hb
  obtain ⟨o1, o2⟩ := over_in (b := 1 + k3 % 5) (by omega) (by omega)
  rw [ei, o1]
  dsimp only [Res.bind_ok]
  rw [law_added_q (hit.sm64 (by decide) (by decide) (by decide)) (o2.sm64 (by decide) (by decide) (by decide))]
  dsimp only [Res.bind_ok]
  rw [setR_nat (by rw [List.length_map, hrl]; exact hb)]
  dsimp only [Res.bind_ok]
  refine Tr.ok ⟨M.set a ((M.getD a []).set b (at2 M a b + 1 / ((1 + k3 % 5 : Int) : Rat))), ?_, ⟨by rw [List.length_set, hs.len], fun r hr => ?_⟩, fun r hr q hq => ?_⟩
  · unfold qm
    rw [List.map_set, List.map_set]
  · rcases List.mem_or_eq_of_mem_set hr with h | h
    · exact hs.row r h
    · rw [h, List.length_set, hrl]
  · rcases List.mem_or_eq_of_mem_set hr with h | h
    · exact hI7 r h q hq
    · rw [h] at hq
      rcases List.mem_or_eq_of_mem_set hq with g | g
      · have hm : M.getD a [] ∈ M := by
          have := getD_some (xs := M) (d := []) (show a < M.length by rw [hs.len]; exact ha)
          exact List.mem_of_getElem? this
        exact hI7 _ hm q g
      · rw [g]
        exact (hit.add o2).le (by decide)
end Kx
namespace Kx
open PySem PySem.Spec L2 Da
variable {n : Nat} {W : List Int} {M : List (List Rat)} {L B : Nat}
def W1 (n : Nat) : List Int := (upto n).map fun _ => 1
theorem W1_lot (n0 : 0 < n) : Lot n (W1 n) := by
  refine ⟨by unfold W1; rw [List.length_map, upto_length], fun x hx => ?_, ?_⟩
  · obtain ⟨_, _, rfl⟩ := List.mem_map.mp hx
    omega
  · show 0 < sI (upto n) fun _ => 1
    rw [sI_const, upto_length]
    omega
theorem W1_wm (n0 : 0 < n) (f : Nat → Rat) : wm n (W1 n) f = SS n f / ((n : Int) : Rat) := by
  unfold wm
  have e1 : Sq0 (W1 n) = ((n : Int) : Rat) := by
    unfold Sq0
    have : (W1 n).sum = (n : Int) := by
      show sI (upto n) (fun _ => 1) = _
      rw [sI_const, upto_length]
      omega
    rw [this]
  rw [e1]
  congr 1
  refine SS_congr fun u hu => ?_
  have : wtq (W1 n) u = 1 := by
    unfold wtq wt W1
    rw [Int.toNat_natCast, List.getD_eq_getElem?_getD, List.getElem?_map, upto_at hu]
    rfl
  rw [this]
  grind
theorem over_n : ∀ n : Nat, n < 13 → 0 < n → ((1, (n : Int)) : Int × Int) = fq ((1 : Rat) / ((n : Int) : Rat)) := by decide +kernel
theorem columns (h : Sq M n) (hn : n ≤ 1000) : ((rngR (n : Int)).bind fun x9 => lcR x9 (fun x7 => Res.ok true) (fun x7 => (lcR (qm M) (fun x8 => Res.ok true) (fun x8 => (ixR x8 x7))))) = .ok (qm (trn M n)) := by
  rw [rngR_nat (by omega)]
  dsimp only [Res.bind_ok]
  rw [lcR_map (g := fun v : Int => (List.range n).map fun u => fq (at2 M u v.toNat)) (by rw [upto_length]; omega) fun v hv => by
    obtain ⟨k, rfl, hk⟩ := Nd.nat (mem_upto.mp hv)
    rw [qm_rows h, Int.toNat_natCast]
    exact lcR_mapp (k := fun u => (List.range n).map fun v => fq (at2 M u v)) (fun u => fq (at2 M u k)) (by rw [List.length_range]; omega) fun u hu => ixR_nat (by rw [List.getElem?_map, List.getElem?_range hk]; rfl)]
  refine congrArg Res.ok ?_
  unfold trn
  rw [mat_qm]
  unfold upto
  rw [List.map_map]
  rfl
theorem law_sums (hb : BdU n L B) (h : Sq M n) (hI : AllIn L B M) : lcR (qm M) (fun x11 => Res.ok true) (fun x11 => (N_law_sum_lpiiq x11)) = .ok ((List.range n).map fun u => fq (rowS M n u)) := by
  obtain ⟨s1, s2, s3⟩ := hb.s44
  have hn := hb.bd.n12
  rw [qm_rows h]
  refine lcR_mapp (k := fun u => (List.range n).map fun v => fq (at2 M u v)) (fun u => fq (rowS M n u)) (by rw [List.length_range]; omega) fun u hu => ?_
  have hu := List.mem_range.mp hu
  have e : ((List.range n).map fun v => fq (at2 M u v)) = ((List.range n).map fun v => at2 M u v).map fq := by rw [List.map_map]; rfl
  rw [e, law_sum_q (L := L) (B := B) hb.bd.l0 s2 (by rw [List.length_map, List.length_range]; exact s1) fun q hq => by
    obtain ⟨v, hv, rfl⟩ := List.mem_map.mp hq
    exact at_in h hI hu (List.mem_range.mp hv)]
  rfl
theorem law_cols (hb : BdU n L B) (h : Sq M n) (hI : AllIn L B M) : lcR (qm (trn M n)) (fun x11 => Res.ok true) (fun x11 => (N_law_sum_lpiiq x11)) = .ok ((List.range n).map fun v => fq (colS M n v)) := by
  rw [law_sums (M := trn M n) hb mat_sq (trn_in h hI)]
  refine congrArg Res.ok (List.map_congr_left fun v hv => ?_)
  rw [trn_row (List.mem_range.mp hv)]
theorem ixf {f : Nat → Rat} {u : Nat} (hu : u < n) : ixR ((List.range n).map fun u => fq (f u)) (u : Int) = .ok (fq (f u)) := ixR_nat (by rw [List.getElem?_map, List.getElem?_range hu]; rfl)
/-- the own halves for the even lot -/
theorem due_ok (hb : BdU n L B) (h : Sq M n) (hI : AllIn L B M) :
    ((rngR (n : Int)).bind fun x24 => (forR (σ := (List (List (Int × Int)))) (fun x15 x16 => ((((rngR (n : Int)).bind fun x21 => lcR x21 (fun x17 => Res.ok true) (fun x17 => (((ixR ((List.range n).map fun u => fq (rowS M n u)) x16).bind fun x18 => ((ixR ((List.range n).map fun v => fq (colS M n v)) x17).bind fun x19 => (N_law_added_piiq_piiq x18 x19))).bind fun x20 => (N_law_timed_piiq_piiq x20 (1, (n : Int)))))).bind fun x22 => appR x15 x22).bind fun x23 =>
  Res.ok x23)) x24 [])) = .ok (qm (hwM n (W1 n) M)) := by
  have hn := hb.bd.n12
  have n0 := hb.bd.n0
  have hl := hb.lines
  rw [rngR_nat (by omega)]
  dsimp only [Res.bind_ok]
  have e2 : qm (hwM n (W1 n) M) = (upto n).map fun u => (List.range n).map fun v => fq (wR n (W1 n) M u.toNat + wC n (W1 n) M v) := by
    unfold hwM
    rw [mat_qm]
    unfold upto
    rw [List.map_map]
    rfl
  rw [e2]
  refine Tr.eq (tr_app _ (by rw [upto_length]; omega) (fun u hu s hs => ?_) rfl)
  obtain ⟨a, rfl, ha⟩ := Nd.nat (mem_upto.mp hu)
  rw [Res.bind_ret, Int.toNat_natCast, lcR_map (g := fun v : Int => fq (wR n (W1 n) M a + wC n (W1 n) M v.toNat)) (by rw [upto_length]; omega) fun v hv => by
    obtain ⟨b, rfl, hb'⟩ := Nd.nat (mem_upto.mp hv)
    rw [ixf ha, ixf hb', Int.toNat_natCast]
    dsimp only [Res.bind_ok]
    have i1 : In L (n * B + n * B) (rowS M n a) := (rowS_in h hI ha).le (by omega)
    have i2 : In L (n * B + n * B) (colS M n b) := (colS_in h hI hb').le (by omega)
    have i3 : In L (n * B + n * B) (rowS M n a + colS M n b) := (rowS_in h hI ha).add (colS_in h hI hb')
    rw [law_added_q (in_sm hl i1) (in_sm hl i2)]
    dsimp only [Res.bind_ok]
    have i4 : In (1 * n) 1 ((1 : Rat) / ((n : Int) : Rat)) := In.div (q := (1 : Rat)) ⟨1, by
      have : (((1 : Nat) : Int) : Rat) = 1 := rfl
      rw [this]; grind, by decide⟩ n (by decide) n0
    rw [over_n n (by omega) n0, law_timed_q (in_sm hl i3) (i4.sm64 (by omega) (by omega) (by decide))]
    refine congrArg Res.ok (congrArg fq ?_)
    unfold wR wC
    rw [W1_wm n0, W1_wm n0]
    show (rowS M n a + colS M n b) * _ = rowS M n a / _ + colS M n b / _
    grind]
  dsimp only [Res.bind_ok]
  rw [appR_ok hs]
  refine Tr.ok ?_
  congr 2
  unfold upto
  rw [List.map_map]
  rfl
/-- equal matrices -/
theorem qm_inj {f g : Nat → Nat → Rat} : qm (mat n f) = qm (mat n g) ↔ ∀ u v, u < n → v < n → f u v = g u v := by
  constructor
  · intro e u v hu hv
    have e1 := congrArg (fun x : List (List (Int × Int)) => (x.getD u []).getD v (0, 0)) e
    rw [mat_qm, mat_qm] at e1
    simp only [List.getD_eq_getElem?_getD, List.getElem?_map, List.getElem?_range hu, List.getElem?_range hv, Option.map_some, Option.getD_some] at e1
    exact fq_inj.mp e1
  · intro e
    rw [mat_qm, mat_qm]
    exact List.map_congr_left fun u hu => List.map_congr_left fun v hv => by rw [e u v (List.mem_range.mp hu) (List.mem_range.mp hv)]
def mid (n : Nat) (M : List (List Rat)) : Rat := totS M n / (((n * n : Nat) : Int) : Rat)
theorem split_iff (n0 : 0 < n) : qm (hwM n (W1 n) M) = qm (mat n fun u v => at2 M u v + mid n M) ↔ NoBreak M n := by
  unfold hwM
  rw [qm_inj, nobreak_cen n0]
  have key : ∀ u v : Nat, wR n (W1 n) M u + wC n (W1 n) M v = at2 M u v + mid n M ↔ cen M n u v = 0 := fun u v => by
    unfold wR wC cen mid
    rw [W1_wm n0, W1_wm n0]
    show rowS M n u / _ + colS M n v / _ = _ ↔ _
    constructor <;> intro q <;> grind
  exact ⟨fun q u v hu hv => (key u v).mp (q u v hu hv), fun q u v hu hv => (key u v).mpr (q u v hu hv)⟩
theorem tot_in (hb : BdU n L B) (h : Sq M n) (hI : AllIn L B M) : In L (n * (n * B)) (totS M n) := by
  have := In.sumAll (L := L) (B := n * B) (qs := (List.range n).map fun u => rowS M n u) fun q hq => by
    obtain ⟨u, hu, rfl⟩ := List.mem_map.mp hq
    exact rowS_in h hI (List.mem_range.mp hu)
  rwa [List.length_map, List.length_range] at this
theorem tot_sm (hb : BdU n L B) (h : Sq M n) (hI : AllIn L B M) : Sm (totS M n) := by
  have h1 := tot_in hb h hI
  obtain ⟨⟨a1, a2, a3, a4, a5⟩, b2⟩ := hb
  have m1 : n * B ≤ 12 * 1000000 := Nat.mul_le_mul a2 b2
  have m2 : n * (n * B) ≤ 12 * (12 * 1000000) := Nat.mul_le_mul a2 m1
  exact h1.sm64 a3 (by omega) (by omega)
theorem mid_in (hb : BdU n L B) (h : Sq M n) (hI : AllIn L B M) : In (L * (n * n)) (n * (n * B)) (mid n M) := In.div (tot_in hb h hI) (n * n) hb.bd.l0 (Nat.mul_pos hb.bd.n0 hb.bd.n0)
theorem mid_sm (hb : BdU n L B) (h : Sq M n) (hI : AllIn L B M) : Sm (mid n M) := by
  have h1 := mid_in hb h hI
  obtain ⟨⟨a1, a2, a3, a4, a5⟩, b2⟩ := hb
  have m1 : n * B ≤ 12 * 1000000 := Nat.mul_le_mul a2 b2
  have m2 : n * (n * B) ≤ 12 * (12 * 1000000) := Nat.mul_le_mul a2 m1
  have m3 : n * n ≤ 12 * 12 := Nat.mul_le_mul a2 a2
  have m4 : L * (n * n) ≤ 1000000 * (12 * 12) := Nat.mul_le_mul a4 m3
  exact h1.sm64 (Nat.mul_pos a3 (Nat.mul_pos a1 a1)) (by omega) (by omega)
theorem middle_ok (hb : BdU n L B) (h : Sq M n) (hI : AllIn L B M) : ((((mulR (fq (totS M n)).2 (n : Int)).bind fun x28 => (mulR x28 (n : Int))).bind fun x29 => (N_law_fraction_i_i (fq (totS M n)).1 x29))) = .ok (fq (mid n M)) := by
  have hs := tot_sm hb h hI
  have hn := hb.bd.n12
  have n0 := hb.bd.n0
  rw [fq_fst, fq_snd, mulR_44 hs.d (small44 (by omega))]
  dsimp only [Res.bind_ok]
  have hd : ((totS M n).den * n : Int).natAbs < 2 ^ 4400 * 2 ^ 64 := by
    rw [Int.natAbs_mul, Int.natAbs_natCast, Int.natAbs_natCast]
    exact Nat.mul_lt_mul'' hs.2 (show n < 2 ^ 64 from Nat.lt_of_le_of_lt hn (by decide))
  have e : ((totS M n).den : Int) * (n : Int) * (n : Int) = ((totS M n).den : Int) * ((n * n : Nat) : Int) := by rw [Int.natCast_mul, Int.mul_assoc]
  rw [mulR_of (mulOk_of (a := 4464) (b := 64) (by rw [← Nat.pow_add] at hd; exact hd) (Nat.lt_of_le_of_lt (show (n : Int).natAbs ≤ 12 by omega) (by decide)))]
  dsimp only [Res.bind_ok]
  have m3 : n * n ≤ 12 * 12 := Nat.mul_le_mul hn hn
  rw [e, law_fraction (den_k_pos _ (Nat.mul_pos n0 n0)) (Nat.lt_of_lt_of_le hs.1 lim44) (den_k_lim hs (by omega)), num_den]
  rfl
theorem shifted_ok (hb : BdU n L B) (h : Sq M n) (hI : AllIn L B M) {μ : Rat} (hμ : Sm μ) : lcR (qm M) (fun x31 => Res.ok true) (fun x31 => (lcR x31 (fun x32 => Res.ok true) (fun x32 => (N_law_added_piiq_piiq x32 (fq μ))))) = .ok (qm (mat n fun u v => at2 M u v + μ)) := by
  have hn := hb.bd.n12
  rw [mat_qm, qm_rows h]
  exact lcR_mapp (k := fun u => (List.range n).map fun v => fq (at2 M u v)) (fun u => (List.range n).map fun v => fq (at2 M u v + μ)) (by rw [List.length_range]; omega) fun u hu => lcR_mapp (k := fun v => fq (at2 M u v)) (fun v => fq (at2 M u v + μ)) (by rw [List.length_range]; omega) fun v hv => law_added_q (in_sm hb.bd (at_in h hI (List.mem_range.mp hu) (List.mem_range.mp hv))) hμ
theorem plain_ok (hn : n ≤ 1000) {μ : Rat} : N_plain_table_i_piiq (n : Int) (fq μ) = .ok (qm (mat n fun _ _ => μ), (n : Int)) := by
  unfold N_plain_table_i_piiq
  rw [rngR_nat (by omega)]
  dsimp only [Res.bind_ok]
  rw [lcR_map (f := fun x1 : Int => lcR (upto n) (fun x2 => Res.ok true) fun x2 => N_frozen_piiq (fq μ)) (g := fun _ => (upto n).map fun _ => fq μ) (by rw [upto_length]; omega) fun u hu => lcR_map (g := fun _ => fq μ) (by rw [upto_length]; omega) fun v hv => frozen_p _]
  dsimp only [Res.bind_ok]
  have e : ((upto n).map fun _ => (upto n).map fun _ => fq μ) = qm (mat n fun _ _ => μ) := by
    rw [mat_qm]
    unfold upto
    rw [List.map_map, List.map_map]
    rfl
  rw [e]
  exact table_qm mat_sq (by omega)
theorem plus_ok {M' : List (List Rat)} (hn : n ≤ 1000) (h : Sq M n) (h' : Sq M' n) (hs : ∀ u v, u < n → v < n → Sm (at2 M u v)) (hs' : ∀ u v, u < n → v < n → Sm (at2 M' u v)) : N_Table_add_cTablettpiiqiq_cTablettpiiqiq (qm M, (n : Int)) (qm M', (n : Int)) = .ok (qm (mat n fun u v => at2 M u v + at2 M' u v), (n : Int)) := by
  unfold N_Table_add_cTablettpiiqiq_cTablettpiiqiq
  dsimp only
  rw [qm_len, qm_len, h.len, h'.len, if_neg (by simp)]
  have e : N_joined_rows_ttpiiq_ttpiiq_i (qm M) (qm M') 1 = .ok (qm (mat n fun u v => at2 M u v + at2 M' u v)) := by
    unfold N_joined_rows_ttpiiq_ttpiiq_i
    rw [qm_len, h.len, rngR_nat (by omega)]
    dsimp only [Res.bind_ok]
    rw [Res.bind_ret]
    have e2 : qm (mat n fun u v => at2 M u v + at2 M' u v) = (upto n).map fun u => (upto n).map fun v => fq (at2 M u.toNat v.toNat + at2 M' u.toNat v.toNat) := by
      rw [mat_qm]
      unfold upto
      rw [List.map_map]
      refine List.map_congr_left fun u _ => ?_
      show _ = List.map _ (List.map _ _)
      rw [List.map_map]
      rfl
    rw [e2]
    refine Tr.eq (tr_app _ (by rw [upto_length]; omega) (fun u hu s hss => ?_) rfl)
    have hu := mem_upto.mp hu
    refine Tr.bind (tr_app (fun v => fq (at2 M u.toNat v.toNat + at2 M' u.toNat v.toNat)) (by rw [upto_length]; omega) (fun v hv s hsz => ?_) (Q := fun r => r = (upto n).map fun v => fq (at2 M u.toNat v.toNat + at2 M' u.toNat v.toNat)) rfl) fun r hr => ?_
    · have hv := mem_upto.mp hv
      rw [if_neg (by decide), Res.bind_ret, ix2 h hu.1 hu.2 hv.1 hv.2, ix2 h' hu.1 hu.2 hv.1 hv.2]
      dsimp only [Res.bind_ok]
      rw [added_q (hs _ _ (by omega) (by omega)) (hs' _ _ (by omega) (by omega))]
      dsimp only [Res.bind_ok]
      rw [appR_ok hsz]
      exact Tr.ok rfl
    · rw [hr, Res.bind_ret]
      exact Tr.of (appR_ok hss) rfl
  rw [e]
  dsimp only [Res.bind_ok]
  exact table_t mat_sq hn
end Kx
namespace Kx
open PySem PySem.Spec L2 Da
/-- a row of one size -/
theorem szn {a : Int} {n : Nat} (b : List Int) (hn : n ≤ 1000) (hb : b.length ≤ 1000) : ((repR [a] (n : Int)).bind fun x => catR b x) = .ok (b ++ List.replicate n a) := by
  rw [repR_ok (by omega) (by simp; omega), rep1, Int.toNat_natCast]
  dsimp only [Res.bind_ok]
  rw [catR_ok (by rw [List.length_replicate]; omega)]
end Kx
namespace Kx
open PySem PySem.Spec L2 Da
variable {n : Nat} {W : List Int} {M : List (List Rat)} {L B : Nat}
theorem bind_eq' {α β : Type} {r : Res α} {v : α} {f : α → Res β} {w : Res β} (h : r = .ok v) (k : f v = w) : r.bind f = w := by rw [h]; exact k
theorem qm_small (hn : n ≤ 1000) (h : Sq M n) : (qm M).length ≤ 1000000 ∧ ∀ r ∈ qm M, r.length ≤ 1000000 := by
  refine ⟨by rw [qm_len, h.len]; omega, fun r hr => ?_⟩
  obtain ⟨q, hq, rfl⟩ := List.mem_map.mp hr
  rw [List.length_map, h.row q hq]
  omega
theorem hw_same (hn : n ≤ 1000) : N_law_same_ttpiiq_llpiiq (qm (hwM n W M)) (qm (hwM n W M)) = .ok true := by
  obtain ⟨h1, h2⟩ := qm_small (n := n) (M := hwM n W M) hn mat_sq
  exact same_tt _ h1 h2
theorem even_ok (n0 : 0 < n) (hn : n ≤ 24) : N_even_lot_i (n : Int) = .ok (W1 n) := by
  unfold N_even_lot_i
  rw [decide_eq_true (show (1 : Int) ≤ n by omega), decide_eq_true (show (n : Int) ≤ 24 by omega), if_neg (by decide), rngR_nat (by omega)]
  dsimp only [Res.bind_ok]
  rw [lcR_map (g := fun _ => 1) (by rw [upto_length]; omega) fun _ _ => rfl]
  rfl
theorem cl_even (n0 : 0 < n) : cl n (W1 n) M = (2 * totS M n) / ((n : Int) : Rat) := by
  unfold cl
  rw [W1_wm n0, SS_add, tot_col]
  show (totS M n + totS M n) / _ = _
  grind
/-- the halves are the shifted table exactly if it splits -/
theorem split_ok (hb : BdU n L B) (h : Sq M n) (hI : AllIn L B M) {r : Option (Int × Int × Int × Int)} (hr : r = none ↔ NoBreak M n) :
    (decide (qm (hwM n (W1 n) M) = qm (mat n fun u v => at2 M u v + mid n M)) = Option.isNone r) ∧
    (((N_plain_table_i_piiq (n : Int) (fq (mid n M))).bind fun x36 => (nx (N_Table_add_cTablettpiiqiq_cTablettpiiqiq (qm M, (n : Int)) x36))).bind fun x37 => (nx (N_Table_eq_cTablettpiiqiq_cTablettpiiqiq (qm (hwM n (W1 n) M), (n : Int)) x37))) = .ok (Option.isNone r) := by
  have hn := hb.bd.n12
  have e1 : decide (qm (hwM n (W1 n) M) = qm (mat n fun u v => at2 M u v + mid n M)) = Option.isNone r := by
    rw [Bool.eq_iff_iff, decide_eq_true_iff, split_iff hb.bd.n0, ← hr]
    cases r <;> simp
  refine ⟨e1, ?_⟩
  have ms := mid_sm hb h hI
  rw [plain_ok (by omega)]
  dsimp only [Res.bind_ok]
  rw [plus_ok (by omega) h mat_sq (fun u v hu hv => in_sm hb.bd (at_in h hI hu hv)) fun u v hu hv => by rw [mat_at hu hv]; exact ms]
  dsimp only [nx_ok, Res.bind_ok]
  unfold N_Table_eq_cTablettpiiqiq_cTablettpiiqiq
  dsimp only
  have e2 : qm (mat n fun u v => at2 M u v + at2 (mat n fun _ _ => mid n M) u v) = qm (mat n fun u v => at2 M u v + mid n M) := qm_inj.mpr fun u v hu hv => by rw [mat_at (f := fun _ _ => mid n M) hu hv]
  rw [e2, e1]
  exact nx_ok
theorem twice_ok (hb : BdU n L B) (h : Sq M n) (hI : AllIn L B M) : ((mulR 2 (fq (totS M n)).1).bind fun x39 => ((mulR (fq (totS M n)).2 (n : Int)).bind fun x40 => (N_law_fraction_i_i x39 x40))) = .ok (fq ((2 * totS M n) / ((n : Int) : Rat))) := by
  have hs := tot_sm hb h hI
  have hn := hb.bd.n12
  have n0 := hb.bd.n0
  rw [fq_fst, fq_snd, mulR_44 (small44 (by decide)) hs.1, mulR_44 hs.d (small44 (by omega))]
  dsimp only [Res.bind_ok]
  have h2 : (2 * (totS M n).num).natAbs < Lim := by
    rw [Int.natAbs_mul]
    exact Nat.lt_of_lt_of_le (mul_lim (small44 (by decide)) hs.1) lim88
  rw [law_fraction (den_k_pos _ n0) h2 (den_k_lim hs (by omega))]
  refine congrArg Res.ok (congrArg fq ?_)
  have e := num_den (totS M n) (k := (n : Int))
  rw [Rat.intCast_mul]
  have e3 : ((2 : Int) : Rat) = 2 := rfl
  rw [e3]
  have : (2 : Rat) * ((totS M n).num : Rat) / ((((totS M n).den : Int) * (n : Int) : Int) : Rat) = 2 * (((totS M n).num : Rat) / ((((totS M n).den : Int) * (n : Int) : Int) : Rat)) := by grind
  rw [this, e]
  grind
theorem law_ok (ns : List Int) : Tr (N_law_fi ns) fun b => b = true := by
  unfold N_law_fi
  refine Tr.bind (drawn ns) ?_
  rintro _ ⟨n, M, rfl, n0, n12, h, hI⟩
  have hb : BdU n 60 7000 := ⟨⟨n0, n12, by decide, by decide, by decide⟩, by decide⟩
  have hW1 := W1_lot n0
  have hlen : (qm M).length = n := by rw [qm_len, h.len]
  rw [hlen]
  refine bind_eq (table_qm h (by omega)) ?_
  refine bind_eq (v := W1 n) (bind_eq' (rngR_nat (by omega)) (lcR_map (by rw [upto_length]; omega) fun _ _ => rfl)) ?_
  refine bind_eq (halfway hb.bd h hI hW1) ?_
  refine bind_eq (columns h (by omega)) ?_
  refine bind_eq (law_sums hb h hI) ?_
  refine bind_eq (law_cols hb h hI) ?_
  refine bind_eq (due_ok hb h hI) ?_
  refine Tr.bind (Q := fun b => b = false) ?_ fun b hb' => Tr.itF hb' ?_
  · rw [hw_same (by omega)]
    exact Tr.ok rfl
  obtain ⟨s1, s2, s3⟩ := hb.s44
  refine bind_eq (law_total h hI (by decide) s2 s3) ?_
  refine bind_eq (middle_ok hb h hI) ?_
  refine bind_eq (shifted_ok hb h hI (mid_sm hb h hI)) ?_
  refine Tr.bind (Q := fun x => ∃ r : Option (Int × Int × Int × Int), x = Option.isNone r ∧ (r = none ↔ NoBreak M n)) (Tr.bind (law_break_ok h hI (by omega) (by decide) (by decide) (by decide)) fun r hr => Tr.ok ⟨r, rfl, hr⟩) ?_
  rintro _ ⟨r, rfl, hr⟩
  obtain ⟨q1, q2⟩ := split_ok hb h hI hr
  refine Tr.bind (Q := fun b => b = false) (Tr.itF (by rw [q1]; simp) (bind_eq q2 (Tr.ok (by simp)))) fun b hb' => Tr.itF hb' ?_
  refine bind_eq (twice_ok hb h hI) ?_
  refine Tr.bind (Q := fun b => b = false) ?_ fun b hb' => Tr.itF hb' ?_
  · refine Tr.bind (Q := fun b => b = false) ?_ fun b hb' => Tr.itF hb' ?_
    · refine Tr.bind (Q := fun b => b = true) ?_ fun b hb' => Tr.ok (by rw [hb']; rfl)
      refine Tr.bind (Q := fun x => x = fq (cl n (W1 n) M)) (bind_eq (even_ok n0 (by omega)) (Tr.of (const_ti hb h hI hW1) rfl)) fun x hx => ?_
      rw [hx, cl_even n0, law_same_pii]
      exact Tr.ok (decide_eq_true rfl)
    · refine Tr.bind (Q := fun b => b = true) ?_ fun b hb' => Tr.ok (by rw [hb']; rfl)
      have ts := tot_in hb h hI
      have td := In.div ts n (by decide) n0
      have tsm : Sm (totS M n / ((n : Int) : Rat)) := by
        have m1 : n * 7000 ≤ 12 * 7000 := Nat.mul_le_mul_right _ n12
        have m2 : n * (n * 7000) ≤ 12 * (12 * 7000) := Nat.mul_le_mul n12 m1
        exact td.sm64 (by omega) (by omega) (by omega)
      refine Tr.bind (Q := fun x => x = fq ((2 * totS M n) / ((n : Int) : Rat))) ?_ fun x hx => ?_
      · rw [mean_day h hI n0 (by omega) (by decide) s2 s3, total_S h]
        dsimp only [nx_ok, Res.bind_ok]
        have e2 : ((2, 1) : Int × Int) = fq (2 : Rat) := rfl
        rw [e2, law_timed_q tsm ⟨small44 (by decide), small44 (by decide)⟩]
        refine Tr.ok (congrArg fq ?_)
        grind
      · rw [hx, law_same_pii]
        exact Tr.ok (decide_eq_true rfl)
  -- any lot
  obtain ⟨c2, e2⟩ := law_cell ns 2 (by omega) (by omega)
  obtain ⟨c3, e3⟩ := law_cell ns 3 (by omega) (by omega)
  rw [e2, e3]
  obtain ⟨r2, d2, h2⟩ := law_digits c2 ([3] ++ List.replicate n 1001) (fun s hs => by
    rcases List.mem_append.mp hs with z | z
    · rw [List.mem_singleton.mp z]; omega
    · rw [List.eq_of_mem_replicate z]; omega) (by rw [List.length_append, List.length_replicate]; simp; omega)
  refine Tr.bind (Q := fun W => Lot n W) ?_ fun W hW => ?_
  · refine Tr.bind (Q := fun r => r = r2) ?_ fun r hr => ?_
    · refine bind_eq rfl ?_
      refine bind_eq (szn [3] (by omega) (by decide)) ?_
      exact Tr.of d2 rfl
    · rw [hr]
      exact any_lot n0 (by omega) h2
  refine bind_eq (row_means hb.bd h hI hW (g := fun x54 => N_law_weighed_lpiiq_li x54 W) fun f hf => law_weighed hb.bd hW hf) ?_
  refine bind_eq (col_means hb.bd h hI hW (g := fun x54 => N_law_weighed_lpiiq_li x54 W) fun f hf => law_weighed hb.bd hW hf) ?_
  refine bind_eq (cross (add := fun x y => N_law_added_piiq_piiq x y) (by omega) (fun u hu => wR_sm hb.bd h hI hW hu) (fun v hv => wC_sm hb.bd h hI hW hv) fun p q hp hq => law_added_q hp hq) ?_
  have hl := hb.lines
  refine bind_eq (v := fq (cl n W M)) ?_ ?_
  · rw [rngR_nat (by omega)]
    dsimp only [Res.bind_ok]
    rw [lcR_map (g := fun u : Int => fq (rowS M n u.toNat + colS M n u.toNat)) (by rw [upto_length]; omega) fun u hu => by
      obtain ⟨a, rfl, ha⟩ := Nd.nat (mem_upto.mp hu)
      rw [ixf ha, ixf ha, Int.toNat_natCast]
      dsimp only [Res.bind_ok]
      have i1 : In 60 (n * 7000 + n * 7000) (rowS M n a) := (rowS_in h hI ha).le (by omega)
      have i2 : In 60 (n * 7000 + n * 7000) (colS M n a) := (colS_in h hI ha).le (by omega)
      exact law_added_q (in_sm hl i1) (in_sm hl i2)]
    dsimp only [Res.bind_ok]
    have e : ((upto n).map fun u : Int => fq (rowS M n u.toNat + colS M n u.toNat)) = (List.range n).map fun u => fq (rowS M n u + colS M n u) := by
      unfold upto
      rw [List.map_map]
      rfl
    rw [e]
    exact law_weighed hl hW fun u hu => lines_in h hI hu
  have hw := halfway hb.bd h hI hW
  refine Tr.bind (Q := fun b => b = false) ?_ fun b hb' => Tr.itF hb' ?_
  · refine Tr.bind (Q := fun b => b = false) ?_ fun b hb' => Tr.itF hb' ?_
    · rw [hw]
      dsimp only [Res.bind_ok]
      refine Tr.bind (Q := fun b => b = true) ?_ fun b hb' => Tr.ok (by rw [hb']; rfl)
      rw [show qm (mat n fun u v => wR n W M u + wC n W M v) = qm (hwM n W M) from rfl, hw_same (by omega)]
      exact Tr.of nx_ok rfl
    · refine Tr.bind (Q := fun b => b = true) ?_ fun b hb' => Tr.ok (by rw [hb']; rfl)
      refine bind_eq (const_li hb h hI hW) ?_
      rw [law_same_pii]
      exact Tr.ok (decide_eq_true rfl)
  -- a day
  refine Tr.bind (Q := fun d => d.Perm (upto n)) ?_ fun d hd => ?_
  · refine Tr.bind (Q := fun r : List Int => r.length = n ∧ ∀ x ∈ r, 0 ≤ x) ?_ fun r hr => ?_
    · refine bind_eq rfl ?_
      rw [repR_ok (by omega) (by simp; omega), rep1, Int.toNat_natCast]
      dsimp only [Res.bind_ok]
      obtain ⟨r4, d4, h4⟩ := law_digits c3 (List.replicate n 24) (fun s hs => by rw [List.eq_of_mem_replicate hs]; omega) (by rw [List.length_replicate]; omega)
      have lz : r4.length = n := by rw [h4.1, List.length_replicate]
      refine Tr.of d4 ⟨lz, fun x hx => ?_⟩
      obtain ⟨i, hi⟩ := List.mem_iff_getElem?.mp hx
      have hil := (List.getElem?_eq_some_iff.mp hi).1
      obtain ⟨r', e', h0, _⟩ := h4.get (i := i) (s := 24) (by rw [List.getElem?_replicate, if_pos (by omega)])
      rw [hi] at e'
      cases e'
      exact h0
    · obtain ⟨p, ep, hp⟩ := law_day (n := n) (r := r) (by omega) (by omega) hr.2
      exact Tr.of ep hp
  have hs24 := hW.sum_le (show n ≤ 24 by omega)
  have hq := hW.pos
  have hAI : AllIn (60 * 1 * W.sum.toNat) (n * (7000 * 1000) + n * (7000 * 1000)) (hwM n W M) := mat_in fun u v hu hv => (wm_in hb.bd hW fun x hx => at_in h hI hu hx).add (wm_in hb.bd hW fun x hx => at_in h hI hx hv)
  refine Tr.bind (Q := fun x => x = fq (cl n W M)) (bind_eq hw ?_) fun x hx => ?_
  · have k1 : n * (7000 * 1000) + n * (7000 * 1000) ≤ 168000000 := by omega
    generalize n * (7000 * 1000) + n * (7000 * 1000) = X at k1 hAI
    have m2 : (n + 1) * X ≤ 13 * 168000000 := Nat.mul_le_mul (show n + 1 ≤ 13 by omega) k1
    have w0 : 0 < W.sum.toNat := by omega
    have w1 : W.sum.toNat ≤ 24000 := by omega
    have p0 : 0 < 60 * 1 * W.sum.toNat := Nat.mul_pos (by decide) w0
    have p1 : 60 * 1 * W.sum.toNat ≤ 60 * 1 * 24000 := Nat.mul_le_mul_left _ w1
    have p2 := small44 (Nat.lt_of_le_of_lt p1 (by decide))
    have p3 := small44 (Nat.lt_of_le_of_lt m2 (by decide))
    have z := day_sumT (M := hwM n W M) mat_sq hAI (perm_day hd) (show n ≤ 1000000 by omega) p0 p2 p3
    rw [half_day h hd] at z
    exact Tr.of z rfl
  · rw [hx, law_same_pii]
    exact Tr.ok (decide_eq_true rfl)
theorem law_true (ns : List Int) (_ : ns.length ≤ 63) (_ : ∀ z ∈ ns, Builtin.Int.intBits z ≤ 1048576) : m_law [.frl (ns.map D.int)] = .ok (.bl true) := rf_use (n_law_fi ns) (law_ok ns).eq
end Kx
namespace Kx
open PySem PySem.Spec L2 Da
theorem all_mk {P : Program} {w : World} {K : PySem.W.Frag} {h : Heap} {mg : Str → Option Value} {fa : Addr} (X : K.In h) (G : h.Ns mainGlobals mg) (hfa : mg "law" = some (.ref fa))
    {C0 : Addr} {q36 : Addr} {rs36 : List Value} {q37 : Addr} {rs37 : List Value} {q41 : Addr} {rs41 : List Value}
    (xc0 : PySem.W.nsIn K mainGlobals "Table" = some (some (.ref C0))) (xp0 : PySem.W.plainGet K C0 Str.empty = true) (xh0 : PySem.W.hasDictIn K C0 = true) (xo0 : PySem.W.plainOver K C0 = true) (xs0 : PySem.W.findIn K (.ref C0) "__setattr__" = some (some (.builtin "object.__setattr__")))
    (xk_Table : PySem.W.findIn K (.ref C0) "__class__" = some (some (.builtin "object.__class__"))) (xm_Table : PySem.W.mroIn K C0 (.type "object") = some true)
    (xks : PySem.W.specialIn K (.builtin "object.__class__") "__get__" = some (some (.builtin "getset_descriptor.__get__"))) (xkt : PySem.W.takesIn K (.builtin "object.__class__") = some true)
    (xt_Table_NoneType : PySem.W.kitOne K (.type "NoneType") (.ref C0) = some false) (xt_Table_bool : PySem.W.kitOne K (.type "bool") (.ref C0) = some false) (xt_Table_int : PySem.W.kitOne K (.type "int") (.ref C0) = some false) (xt_Table_str : PySem.W.kitOne K (.type "str") (.ref C0) = some false) (xt_Table_list : PySem.W.kitOne K (.type "list") (.ref C0) = some false) (xt_Table_tuple : PySem.W.kitOne K (.type "tuple") (.ref C0) = some false) (xt_Table_dict : PySem.W.kitOne K (.type "dict") (.ref C0) = some false)
    (xi_Table_Table : PySem.W.kitOne K (.ref C0) (.ref C0) = some true)
    (xf_Table_rows : PySem.W.findIn K (.ref C0) "rows" = some none)
    (xf_Table_size : PySem.W.findIn K (.ref C0) "size" = some none)
    {f0 f1 f2 f3 f4 f5 f6 f7 f8 f9 f10 f11 f12 f13 f14 f15 f16 f17 f18 f19 f20 f21 f22 f23 f24 f25 f26 f27 f28 f29 f30 f31 f32 f33 f34 f35 f36 f37 f38 f39 f40 f41 f42 : Addr} {od0 an0 od1 an1 od2 an2 od3 an3 od4 an4 od5 an5 od6 an6 od7 an7 od8 an8 od9 an9 od10 an10 od11 an11 od12 an12 od13 an13 od14 an14 od15 an15 od16 an16 od17 an17 od18 an18 od19 an19 od20 an20 od21 an21 od22 an22 od23 an23 od24 an24 od25 an25 od26 an26 od27 an27 od28 an28 od29 an29 od30 an30 od31 an31 od32 an32 od33 an33 od34 an34 od35 an35 od36 an36 od37 an37 od38 an38 od39 an39 od40 an40 od41 an41 od42 an42 : Option Addr} {sl0 sl1 sl2 sl3 sl4 sl5 sl6 sl7 sl8 sl9 sl10 sl11 sl12 sl13 sl14 sl15 sl16 sl17 sl18 sl19 sl20 sl21 sl22 sl23 sl24 sl25 sl26 sl27 sl28 sl29 sl30 sl31 sl32 sl33 sl34 sl35 sl36 sl37 sl38 sl39 sl40 sl41 sl42 : Array (Option Value)} {oc0 kv0 dc0 pm0 cd0 ct0 oc1 kv1 dc1 pm1 cd1 ct1 oc2 kv2 dc2 pm2 cd2 ct2 oc3 kv3 dc3 pm3 cd3 ct3 oc4 kv4 dc4 pm4 cd4 ct4 oc5 kv5 dc5 pm5 cd5 ct5 oc6 kv6 dc6 pm6 cd6 ct6 oc7 kv7 dc7 pm7 cd7 ct7 oc8 kv8 dc8 pm8 cd8 ct8 oc9 kv9 dc9 pm9 cd9 ct9 oc10 kv10 dc10 pm10 cd10 ct10 oc11 kv11 dc11 pm11 cd11 ct11 oc12 kv12 dc12 pm12 cd12 ct12 oc13 kv13 dc13 pm13 cd13 ct13 oc14 kv14 dc14 pm14 cd14 ct14 oc15 kv15 dc15 pm15 cd15 ct15 oc16 kv16 dc16 pm16 cd16 ct16 oc17 kv17 dc17 pm17 cd17 ct17 oc18 kv18 dc18 pm18 cd18 ct18 oc19 kv19 dc19 pm19 cd19 ct19 oc20 kv20 dc20 pm20 cd20 ct20 oc21 kv21 dc21 pm21 cd21 ct21 oc22 kv22 dc22 pm22 cd22 ct22 oc23 kv23 dc23 pm23 cd23 ct23 oc24 kv24 dc24 pm24 cd24 ct24 oc25 kv25 dc25 pm25 cd25 ct25 oc26 kv26 dc26 pm26 cd26 ct26 oc27 kv27 dc27 pm27 cd27 ct27 oc28 kv28 dc28 pm28 cd28 ct28 oc29 kv29 dc29 pm29 cd29 ct29 oc30 kv30 dc30 pm30 cd30 ct30 oc31 kv31 dc31 pm31 cd31 ct31 oc32 kv32 dc32 pm32 cd32 ct32 oc33 kv33 dc33 pm33 cd33 ct33 oc34 kv34 dc34 pm34 cd34 ct34 oc35 kv35 dc35 pm35 cd35 ct35 oc36 kv36 dc36 pm36 cd36 ct36 oc37 kv37 dc37 pm37 cd37 ct37 oc38 kv38 dc38 pm38 cd38 ct38 oc39 kv39 dc39 pm39 cd39 ct39 oc40 kv40 dc40 pm40 cd40 ct40 oc41 kv41 dc41 pm41 cd41 ct41 oc42 kv42 dc42 pm42 cd42 ct42 : Value}
    (a0 : PySem.W.nsIn K mainGlobals "_law_digits" = some (some (.ref f0))) (l0 : K.lookup f0 = some ⟨oc0, od0, .func (PySem.W.fnOf "_law_digits" "_law_digits" (defArgs s_law_digits) (defBody s_law_digits) (defScope s_law_digits) .none kv0 dc0 pm0 an0 cd0 ct0), sl0⟩) (c0 : PySem.W.codeIn K cd0 "_law_digits" = true) (k0 : PySem.W.keepIn K (.ref f0) = true)
    (a1 : PySem.W.nsIn K mainGlobals "_law_gcd" = some (some (.ref f1))) (l1 : K.lookup f1 = some ⟨oc1, od1, .func (PySem.W.fnOf "_law_gcd" "_law_gcd" (defArgs s_law_gcd) (defBody s_law_gcd) (defScope s_law_gcd) .none kv1 dc1 pm1 an1 cd1 ct1), sl1⟩) (c1 : PySem.W.codeIn K cd1 "_law_gcd" = true) (k1 : PySem.W.keepIn K (.ref f1) = true)
    (a2 : PySem.W.nsIn K mainGlobals "_law_fraction" = some (some (.ref f2))) (l2 : K.lookup f2 = some ⟨oc2, od2, .func (PySem.W.fnOf "_law_fraction" "_law_fraction" (defArgs s_law_fraction) (defBody s_law_fraction) (defScope s_law_fraction) .none kv2 dc2 pm2 an2 cd2 ct2), sl2⟩) (c2 : PySem.W.codeIn K cd2 "_law_fraction" = true) (k2 : PySem.W.keepIn K (.ref f2) = true)
    (a3 : PySem.W.nsIn K mainGlobals "_law_table_rows" = some (some (.ref f3))) (l3 : K.lookup f3 = some ⟨oc3, od3, .func (PySem.W.fnOf "_law_table_rows" "_law_table_rows" (defArgs s_law_table_rows2) (defBody s_law_table_rows2) (defScope s_law_table_rows2) .none kv3 dc3 pm3 an3 cd3 ct3), sl3⟩) (c3 : PySem.W.codeIn K cd3 "_law_table_rows" = true) (k3 : PySem.W.keepIn K (.ref f3) = true)
    (a4 : PySem.W.nsIn K mainGlobals "_law_cell" = some (some (.ref f4))) (l4 : K.lookup f4 = some ⟨oc4, od4, .func (PySem.W.fnOf "_law_cell" "_law_cell" (defArgs s_law_cell) (defBody s_law_cell) (defScope s_law_cell) .none kv4 dc4 pm4 an4 cd4 ct4), sl4⟩) (c4 : PySem.W.codeIn K cd4 "_law_cell" = true) (k4 : PySem.W.keepIn K (.ref f4) = true)
    (a5 : PySem.W.nsIn K mainGlobals "_law_added" = some (some (.ref f5))) (l5 : K.lookup f5 = some ⟨oc5, od5, .func (PySem.W.fnOf "_law_added" "_law_added" (defArgs s_law_added) (defBody s_law_added) (defScope s_law_added) .none kv5 dc5 pm5 an5 cd5 ct5), sl5⟩) (c5 : PySem.W.codeIn K cd5 "_law_added" = true) (k5 : PySem.W.keepIn K (.ref f5) = true)
    (a6 : PySem.W.nsIn K mainGlobals "_law_split_rows" = some (some (.ref f6))) (l6 : K.lookup f6 = some ⟨oc6, od6, .func (PySem.W.fnOf "_law_split_rows" "_law_split_rows" (defArgs s_law_split_rows2) (defBody s_law_split_rows2) (defScope s_law_split_rows2) .none kv6 dc6 pm6 an6 cd6 ct6), sl6⟩) (c6 : PySem.W.codeIn K cd6 "_law_split_rows" = true) (k6 : PySem.W.keepIn K (.ref f6) = true)
    (a7 : PySem.W.nsIn K mainGlobals "_law_drawn_rows" = some (some (.ref f7))) (l7 : K.lookup f7 = some ⟨oc7, od7, .func (PySem.W.fnOf "_law_drawn_rows" "_law_drawn_rows" (defArgs s_law_drawn_rows2) (defBody s_law_drawn_rows2) (defScope s_law_drawn_rows2) .none kv7 dc7 pm7 an7 cd7 ct7), sl7⟩) (c7 : PySem.W.codeIn K cd7 "_law_drawn_rows" = true) (k7 : PySem.W.keepIn K (.ref f7) = true)
    (a8 : PySem.W.nsIn K mainGlobals "is_number" = some (some (.ref f8))) (l8 : K.lookup f8 = some ⟨oc8, od8, .func (PySem.W.fnOf "is_number" "is_number" (defArgs s_is_number) (defBody s_is_number) (defScope s_is_number) .none kv8 dc8 pm8 an8 cd8 ct8), sl8⟩) (c8 : PySem.W.codeIn K cd8 "is_number" = true) (k8 : PySem.W.keepIn K (.ref f8) = true)
    (a9 : PySem.W.nsIn K mainGlobals "as_fraction" = some (some (.ref f9))) (l9 : K.lookup f9 = some ⟨oc9, od9, .func (PySem.W.fnOf "as_fraction" "as_fraction" (defArgs s_as_fraction) (defBody s_as_fraction) (defScope s_as_fraction) .none kv9 dc9 pm9 an9 cd9 ct9), sl9⟩) (c9 : PySem.W.codeIn K cd9 "as_fraction" = true) (k9 : PySem.W.keepIn K (.ref f9) = true)
    (a10 : PySem.W.nsIn K mainGlobals "checked_rows" = some (some (.ref f10))) (l10 : K.lookup f10 = some ⟨oc10, od10, .func (PySem.W.fnOf "checked_rows" "checked_rows" (defArgs s_checked_rows) (defBody s_checked_rows) (defScope s_checked_rows) .none kv10 dc10 pm10 an10 cd10 ct10), sl10⟩) (c10 : PySem.W.codeIn K cd10 "checked_rows" = true) (k10 : PySem.W.keepIn K (.ref f10) = true)
    (a11 : PySem.W.nsIn K mainGlobals "frozen" = some (some (.ref f11))) (l11 : K.lookup f11 = some ⟨oc11, od11, .func (PySem.W.fnOf "frozen" "frozen" (defArgs s_frozen) (defBody s_frozen) (defScope s_frozen) .none kv11 dc11 pm11 an11 cd11 ct11), sl11⟩) (c11 : PySem.W.codeIn K cd11 "frozen" = true) (k11 : PySem.W.keepIn K (.ref f11) = true)
    (a12 : PySem.W.findIn K (.ref C0) "__init__" = some (some (.ref f12))) (ya12 : PySem.W.makesIn K C0 = true) (yb12 : PySem.W.isFn K (.ref f12) = true) (yc12 : PySem.W.keepIn K (.ref C0) = true)
    (l12 : K.lookup f12 = some ⟨oc12, od12, .func (PySem.W.fnOf "__init__" "Table.__init__" (defArgs s_Table_init) (defBody s_Table_init) (defScope s_Table_init) .none kv12 dc12 pm12 an12 cd12 ct12), sl12⟩) (c12 : PySem.W.codeIn K cd12 "Table.__init__" = true) (k12 : PySem.W.keepIn K (.ref f12) = true)
    (a13 : PySem.W.nsIn K mainGlobals "checked_lot" = some (some (.ref f13))) (l13 : K.lookup f13 = some ⟨oc13, od13, .func (PySem.W.fnOf "checked_lot" "checked_lot" (defArgs s_checked_lot) (defBody s_checked_lot) (defScope s_checked_lot) .none kv13 dc13 pm13 an13 cd13 ct13), sl13⟩) (c13 : PySem.W.codeIn K cd13 "checked_lot" = true) (k13 : PySem.W.keepIn K (.ref f13) = true)
    (a14 : PySem.W.nsIn K mainGlobals "ratio" = some (some (.ref f14))) (l14 : K.lookup f14 = some ⟨oc14, od14, .func (PySem.W.fnOf "ratio" "ratio" (defArgs s_ratio) (defBody s_ratio) (defScope s_ratio) .none kv14 dc14 pm14 an14 cd14 ct14), sl14⟩) (c14 : PySem.W.codeIn K cd14 "ratio" = true) (k14 : PySem.W.keepIn K (.ref f14) = true)
    (a15 : PySem.W.nsIn K mainGlobals "added" = some (some (.ref f15))) (l15 : K.lookup f15 = some ⟨oc15, od15, .func (PySem.W.fnOf "added" "added" (defArgs s_added) (defBody s_added) (defScope s_added) .none kv15 dc15 pm15 an15 cd15 ct15), sl15⟩) (c15 : PySem.W.codeIn K cd15 "added" = true) (k15 : PySem.W.keepIn K (.ref f15) = true)
    (a16 : PySem.W.nsIn K mainGlobals "fraction_sum" = some (some (.ref f16))) (l16 : K.lookup f16 = some ⟨oc16, od16, .func (PySem.W.fnOf "fraction_sum" "fraction_sum" (defArgs s_fraction_sum) (defBody s_fraction_sum) (defScope s_fraction_sum) .none kv16 dc16 pm16 an16 cd16 ct16), sl16⟩) (c16 : PySem.W.codeIn K cd16 "fraction_sum" = true) (k16 : PySem.W.keepIn K (.ref f16) = true)
    (a17 : PySem.W.nsIn K mainGlobals "weighed" = some (some (.ref f17))) (l17 : K.lookup f17 = some ⟨oc17, od17, .func (PySem.W.fnOf "weighed" "weighed" (defArgs s_weighed) (defBody s_weighed) (defScope s_weighed) .none kv17 dc17 pm17 an17 cd17 ct17), sl17⟩) (c17 : PySem.W.codeIn K cd17 "weighed" = true) (k17 : PySem.W.keepIn K (.ref f17) = true)
    (a18 : PySem.W.nsIn K mainGlobals "turned_rows" = some (some (.ref f18))) (l18 : K.lookup f18 = some ⟨oc18, od18, .func (PySem.W.fnOf "turned_rows" "turned_rows" (defArgs s_turned_rows) (defBody s_turned_rows) (defScope s_turned_rows) .none kv18 dc18 pm18 an18 cd18 ct18), sl18⟩) (c18 : PySem.W.codeIn K cd18 "turned_rows" = true) (k18 : PySem.W.keepIn K (.ref f18) = true)
    (a19 : PySem.W.findIn K (.ref C0) "turned" = some (some (.ref f19))) (yb19 : PySem.W.isFn K (.ref f19) = true)
    (l19 : K.lookup f19 = some ⟨oc19, od19, .func (PySem.W.fnOf "turned" "Table.turned" (defArgs s_Table_turned) (defBody s_Table_turned) (defScope s_Table_turned) .none kv19 dc19 pm19 an19 cd19 ct19), sl19⟩) (c19 : PySem.W.codeIn K cd19 "Table.turned" = true) (k19 : PySem.W.keepIn K (.ref f19) = true)
    (a20 : PySem.W.nsIn K mainGlobals "halfway_table" = some (some (.ref f20))) (l20 : K.lookup f20 = some ⟨oc20, od20, .func (PySem.W.fnOf "halfway_table" "halfway_table" (defArgs s_halfway_table) (defBody s_halfway_table) (defScope s_halfway_table) .none kv20 dc20 pm20 an20 cd20 ct20), sl20⟩) (c20 : PySem.W.codeIn K cd20 "halfway_table" = true) (k20 : PySem.W.keepIn K (.ref f20) = true)
    (a21 : PySem.W.nsIn K mainGlobals "_law_total" = some (some (.ref f21))) (l21 : K.lookup f21 = some ⟨oc21, od21, .func (PySem.W.fnOf "_law_total" "_law_total" (defArgs s_law_total) (defBody s_law_total) (defScope s_law_total) .none kv21 dc21 pm21 an21 cd21 ct21), sl21⟩) (c21 : PySem.W.codeIn K cd21 "_law_total" = true) (k21 : PySem.W.keepIn K (.ref f21) = true)
    (a22 : PySem.W.nsIn K mainGlobals "_law_any_lot" = some (some (.ref f22))) (l22 : K.lookup f22 = some ⟨oc22, od22, .func (PySem.W.fnOf "_law_any_lot" "_law_any_lot" (defArgs s_law_any_lot) (defBody s_law_any_lot) (defScope s_law_any_lot) .none kv22 dc22 pm22 an22 cd22 ct22), sl22⟩) (c22 : PySem.W.codeIn K cd22 "_law_any_lot" = true) (k22 : PySem.W.keepIn K (.ref f22) = true)
    (a23 : PySem.W.nsIn K mainGlobals "_law_timed" = some (some (.ref f23))) (l23 : K.lookup f23 = some ⟨oc23, od23, .func (PySem.W.fnOf "_law_timed" "_law_timed" (defArgs s_law_timed) (defBody s_law_timed) (defScope s_law_timed) .none kv23 dc23 pm23 an23 cd23 ct23), sl23⟩) (c23 : PySem.W.codeIn K cd23 "_law_timed" = true) (k23 : PySem.W.keepIn K (.ref f23) = true)
    (a24 : PySem.W.nsIn K mainGlobals "_law_weighed" = some (some (.ref f24))) (l24 : K.lookup f24 = some ⟨oc24, od24, .func (PySem.W.fnOf "_law_weighed" "_law_weighed" (defArgs s_law_weighed) (defBody s_law_weighed) (defScope s_law_weighed) .none kv24 dc24 pm24 an24 cd24 ct24), sl24⟩) (c24 : PySem.W.codeIn K cd24 "_law_weighed" = true) (k24 : PySem.W.keepIn K (.ref f24) = true)
    (a25 : PySem.W.nsIn K mainGlobals "_law_day" = some (some (.ref f25))) (l25 : K.lookup f25 = some ⟨oc25, od25, .func (PySem.W.fnOf "_law_day" "_law_day" (defArgs s_law_day) (defBody s_law_day) (defScope s_law_day) .none kv25 dc25 pm25 an25 cd25 ct25), sl25⟩) (c25 : PySem.W.codeIn K cd25 "_law_day" = true) (k25 : PySem.W.keepIn K (.ref f25) = true)
    (a26 : PySem.W.nsIn K mainGlobals "_law_whole" = some (some (.ref f26))) (l26 : K.lookup f26 = some ⟨oc26, od26, .func (PySem.W.fnOf "_law_whole" "_law_whole" (defArgs s_law_whole) (defBody s_law_whole) (defScope s_law_whole) .none kv26 dc26 pm26 an26 cd26 ct26), sl26⟩) (c26 : PySem.W.codeIn K cd26 "_law_whole" = true) (k26 : PySem.W.keepIn K (.ref f26) = true)
    (a27 : PySem.W.nsIn K mainGlobals "_law_same" = some (some (.ref f27))) (l27 : K.lookup f27 = some ⟨oc27, od27, .func (PySem.W.fnOf "_law_same" "_law_same" (defArgs s_law_same) (defBody s_law_same) (defScope s_law_same) .none kv27 dc27 pm27 an27 cd27 ct27), sl27⟩) (c27 : PySem.W.codeIn K cd27 "_law_same" = true) (k27 : PySem.W.keepIn K (.ref f27) = true)
    (a28 : PySem.W.nsIn K mainGlobals "_law_sum" = some (some (.ref f28))) (l28 : K.lookup f28 = some ⟨oc28, od28, .func (PySem.W.fnOf "_law_sum" "_law_sum" (defArgs s_law_sum) (defBody s_law_sum) (defScope s_law_sum) .none kv28 dc28 pm28 an28 cd28 ct28), sl28⟩) (c28 : PySem.W.codeIn K cd28 "_law_sum" = true) (k28 : PySem.W.keepIn K (.ref f28) = true)
    (a29 : PySem.W.nsIn K mainGlobals "_law_break" = some (some (.ref f29))) (l29 : K.lookup f29 = some ⟨oc29, od29, .func (PySem.W.fnOf "_law_break" "_law_break" (defArgs s_law_break) (defBody s_law_break) (defScope s_law_break) .none kv29 dc29 pm29 an29 cd29 ct29), sl29⟩) (c29 : PySem.W.codeIn K cd29 "_law_break" = true) (k29 : PySem.W.keepIn K (.ref f29) = true)
    (a30 : PySem.W.nsIn K mainGlobals "day_sum" = some (some (.ref f30))) (l30 : K.lookup f30 = some ⟨oc30, od30, .func (PySem.W.fnOf "day_sum" "day_sum" (defArgs s_day_sum) (defBody s_day_sum) (defScope s_day_sum) .none kv30 dc30 pm30 an30 cd30 ct30), sl30⟩) (c30 : PySem.W.codeIn K cd30 "day_sum" = true) (k30 : PySem.W.keepIn K (.ref f30) = true)
    (a31 : PySem.W.findIn K (.ref C0) "__eq__" = some (some (.ref f31))) (yb31 : PySem.W.isFn K (.ref f31) = true)
    (l31 : K.lookup f31 = some ⟨oc31, od31, .func (PySem.W.fnOf "__eq__" "Table.__eq__" (defArgs s_Table_eq) (defBody s_Table_eq) (defScope s_Table_eq) .none kv31 dc31 pm31 an31 cd31 ct31), sl31⟩) (c31 : PySem.W.codeIn K cd31 "Table.__eq__" = true) (k31 : PySem.W.keepIn K (.ref f31) = true)
    (a32 : PySem.W.nsIn K mainGlobals "less" = some (some (.ref f32))) (l32 : K.lookup f32 = some ⟨oc32, od32, .func (PySem.W.fnOf "less" "less" (defArgs s_less) (defBody s_less) (defScope s_less) .none kv32 dc32 pm32 an32 cd32 ct32), sl32⟩) (c32 : PySem.W.codeIn K cd32 "less" = true) (k32 : PySem.W.keepIn K (.ref f32) = true)
    (a33 : PySem.W.nsIn K mainGlobals "joined_rows" = some (some (.ref f33))) (l33 : K.lookup f33 = some ⟨oc33, od33, .func (PySem.W.fnOf "joined_rows" "joined_rows" (defArgs s_joined_rows) (defBody s_joined_rows) (defScope s_joined_rows) .none kv33 dc33 pm33 an33 cd33 ct33), sl33⟩) (c33 : PySem.W.codeIn K cd33 "joined_rows" = true) (k33 : PySem.W.keepIn K (.ref f33) = true)
    (a34 : PySem.W.findIn K (.ref C0) "__add__" = some (some (.ref f34))) (yb34 : PySem.W.isFn K (.ref f34) = true)
    (l34 : K.lookup f34 = some ⟨oc34, od34, .func (PySem.W.fnOf "__add__" "Table.__add__" (defArgs s_Table_add) (defBody s_Table_add) (defScope s_Table_add) .none kv34 dc34 pm34 an34 cd34 ct34), sl34⟩) (c34 : PySem.W.codeIn K cd34 "Table.__add__" = true) (k34 : PySem.W.keepIn K (.ref f34) = true)
    (a35 : PySem.W.nsIn K mainGlobals "line_sums" = some (some (.ref f35))) (l35 : K.lookup f35 = some ⟨oc35, od35, .func (PySem.W.fnOf "line_sums" "line_sums" (defArgs s_line_sums) (defBody s_line_sums) (defScope s_line_sums) .none kv35 dc35 pm35 an35 cd35 ct35), sl35⟩) (c35 : PySem.W.codeIn K cd35 "line_sums" = true) (k35 : PySem.W.keepIn K (.ref f35) = true)
    (ya36 : PySem.W.findIn K (.ref C0) "row_sums" = some (some (.ref q36))) (a36 : PySem.W.recIn K q36 "property" = some (.ref f36 :: rs36)) (yb36 : PySem.W.specialIn K (.ref q36) "__get__" = some (some (.builtin "property.__get__"))) (yc36 : PySem.W.takesIn K (.ref q36) = some true)
    (l36 : K.lookup f36 = some ⟨oc36, od36, .func (PySem.W.fnOf "row_sums" "Table.row_sums" (defArgs s_Table_row_sums) (defBody s_Table_row_sums) (defScope s_Table_row_sums) .none kv36 dc36 pm36 an36 cd36 ct36), sl36⟩) (c36 : PySem.W.codeIn K cd36 "Table.row_sums" = true) (k36 : PySem.W.keepIn K (.ref f36) = true)
    (ya37 : PySem.W.findIn K (.ref C0) "column_sums" = some (some (.ref q37))) (a37 : PySem.W.recIn K q37 "property" = some (.ref f37 :: rs37)) (yb37 : PySem.W.specialIn K (.ref q37) "__get__" = some (some (.builtin "property.__get__"))) (yc37 : PySem.W.takesIn K (.ref q37) = some true)
    (l37 : K.lookup f37 = some ⟨oc37, od37, .func (PySem.W.fnOf "column_sums" "Table.column_sums" (defArgs s_Table_column_sums) (defBody s_Table_column_sums) (defScope s_Table_column_sums) .none kv37 dc37 pm37 an37 cd37 ct37), sl37⟩) (c37 : PySem.W.codeIn K cd37 "Table.column_sums" = true) (k37 : PySem.W.keepIn K (.ref f37) = true)
    (a38 : PySem.W.nsIn K mainGlobals "constant_load" = some (some (.ref f38))) (l38 : K.lookup f38 = some ⟨oc38, od38, .func (PySem.W.fnOf "constant_load" "constant_load" (defArgs s_constant_load) (defBody s_constant_load) (defScope s_constant_load) .none kv38 dc38 pm38 an38 cd38 ct38), sl38⟩) (c38 : PySem.W.codeIn K cd38 "constant_load" = true) (k38 : PySem.W.keepIn K (.ref f38) = true)
    (a39 : PySem.W.nsIn K mainGlobals "plain_table" = some (some (.ref f39))) (l39 : K.lookup f39 = some ⟨oc39, od39, .func (PySem.W.fnOf "plain_table" "plain_table" (defArgs s_plain_table) (defBody s_plain_table) (defScope s_plain_table) .none kv39 dc39 pm39 an39 cd39 ct39), sl39⟩) (c39 : PySem.W.codeIn K cd39 "plain_table" = true) (k39 : PySem.W.keepIn K (.ref f39) = true)
    (a40 : PySem.W.nsIn K mainGlobals "even_lot" = some (some (.ref f40))) (l40 : K.lookup f40 = some ⟨oc40, od40, .func (PySem.W.fnOf "even_lot" "even_lot" (defArgs s_even_lot) (defBody s_even_lot) (defScope s_even_lot) .none kv40 dc40 pm40 an40 cd40 ct40), sl40⟩) (c40 : PySem.W.codeIn K cd40 "even_lot" = true) (k40 : PySem.W.keepIn K (.ref f40) = true)
    (ya41 : PySem.W.findIn K (.ref C0) "mean_day" = some (some (.ref q41))) (a41 : PySem.W.recIn K q41 "property" = some (.ref f41 :: rs41)) (yb41 : PySem.W.specialIn K (.ref q41) "__get__" = some (some (.builtin "property.__get__"))) (yc41 : PySem.W.takesIn K (.ref q41) = some true)
    (l41 : K.lookup f41 = some ⟨oc41, od41, .func (PySem.W.fnOf "mean_day" "Table.mean_day" (defArgs s_Table_mean_day) (defBody s_Table_mean_day) (defScope s_Table_mean_day) .none kv41 dc41 pm41 an41 cd41 ct41), sl41⟩) (c41 : PySem.W.codeIn K cd41 "Table.mean_day" = true) (k41 : PySem.W.keepIn K (.ref f41) = true)
    (a42 : PySem.W.nsIn K mainGlobals "law" = some (some (.ref f42))) (l42 : K.lookup f42 = some ⟨oc42, od42, .func (PySem.W.fnOf "law" "law" (defArgs s_law) (defBody s_law) (defScope s_law) .none kv42 dc42 pm42 an42 cd42 ct42), sl42⟩) (c42 : PySem.W.codeIn K cd42 "law" = true) (k42 : PySem.W.keepIn K (.ref f42) = true)
    {E0 E1 E2 E3 E4 : Addr} {Ef0 Ex0 Ef3 Ex3 Ef4 Ex4 : Addr}
    (ea0 : PySem.W.nsIn K mainGlobals "BadTable" = some (some (.ref E0)))
    {en0 eq0 : Str} {eb0 em0 : List Value} {esn0 : _} {esu0 : _} {eab0 : _} {eco0 : _} {edd0 : _} {ek00 : _} {ek10 : _} {ek20 : _} {ek30 : _} {ek50 : _}
    (el0 : K.lookup E0 = some (excClassObj en0 eq0 E0 Ex0 eb0 em0 true esn0 esu0 eab0 eco0 edd0 ek00 ek10 ek20 ek30 ek50 "ValueError.__new__")) (ev0 : PySem.HandSPX.refsVE em0 = true) (es0 : PySem.W.findIn K (.ref E0) "__setattr__" = some (some (.builtin "object.__setattr__"))) (et0 : PySem.W.subIn K (.ref E0) (.type "BaseException") = some true) (ey0 : PySem.W.typeIn K (.ref E0) = some (.type "type")) (ek0 : PySem.W.keepIn K (.ref E0) = true)
    (ei0 : PySem.W.findIn K (.ref E0) "__init__" = some (some (.ref Ef0))) (ej0 : PySem.W.typeIn K (.ref Ef0) = some (.type "function"))
    {eoc0 ekv0 edc0 epm0 ecd0 ect0 : Value} {eod0 ean0 : Option Addr} {esl0 : Array (Option Value)} (eu0 : K.lookup Ef0 = some ⟨eoc0, eod0, .func (PySem.W.fnOf "__init__" "BadTable.__init__" (defArgs s_BadTable_init) (defBody s_BadTable_init) (defScope s_BadTable_init) .none ekv0 edc0 epm0 ean0 ecd0 ect0), esl0⟩) (ew0 : PySem.W.codeIn K ecd0 "BadTable.__init__" = true) (ez0 : PySem.W.keepIn K (.ref Ef0) = true)
    (eg0_index : PySem.W.findIn K (.ref E0) "index" = some none)
    (ea1 : PySem.W.nsIn K mainGlobals "BadLot" = some (some (.ref E1)))
    (ex1 : PySem.W.excIn K E1 veT "ValueError.__new__" = true) (ek1 : PySem.W.keepIn K (.ref E1) = true) (et1 : PySem.W.subIn K (.ref E1) (.type "BaseException") = some true) (ey1 : PySem.W.typeIn K (.ref E1) = some (.type "type"))
    (ea2 : PySem.W.nsIn K mainGlobals "ZeroBottom" = some (some (.ref E2)))
    (ex2 : PySem.W.excIn K E2 veT "ValueError.__new__" = true) (ek2 : PySem.W.keepIn K (.ref E2) = true) (et2 : PySem.W.subIn K (.ref E2) (.type "BaseException") = some true) (ey2 : PySem.W.typeIn K (.ref E2) = some (.type "type"))
    (ea3 : PySem.W.nsIn K mainGlobals "SizesDiffer" = some (some (.ref E3)))
    {en3 eq3 : Str} {eb3 em3 : List Value} {esn3 : _} {esu3 : _} {eab3 : _} {eco3 : _} {edd3 : _} {ek03 : _} {ek13 : _} {ek23 : _} {ek33 : _} {ek53 : _}
    (el3 : K.lookup E3 = some (excClassObj en3 eq3 E3 Ex3 eb3 em3 true esn3 esu3 eab3 eco3 edd3 ek03 ek13 ek23 ek33 ek53 "ValueError.__new__")) (ev3 : PySem.HandSPX.refsVE em3 = true) (es3 : PySem.W.findIn K (.ref E3) "__setattr__" = some (some (.builtin "object.__setattr__"))) (et3 : PySem.W.subIn K (.ref E3) (.type "BaseException") = some true) (ey3 : PySem.W.typeIn K (.ref E3) = some (.type "type")) (ek3 : PySem.W.keepIn K (.ref E3) = true)
    (ei3 : PySem.W.findIn K (.ref E3) "__init__" = some (some (.ref Ef3))) (ej3 : PySem.W.typeIn K (.ref Ef3) = some (.type "function"))
    {eoc3 ekv3 edc3 epm3 ecd3 ect3 : Value} {eod3 ean3 : Option Addr} {esl3 : Array (Option Value)} (eu3 : K.lookup Ef3 = some ⟨eoc3, eod3, .func (PySem.W.fnOf "__init__" "SizesDiffer.__init__" (defArgs s_SizesDiffer_init) (defBody s_SizesDiffer_init) (defScope s_SizesDiffer_init) .none ekv3 edc3 epm3 ean3 ecd3 ect3), esl3⟩) (ew3 : PySem.W.codeIn K ecd3 "SizesDiffer.__init__" = true) (ez3 : PySem.W.keepIn K (.ref Ef3) = true)
    (eg3_one : PySem.W.findIn K (.ref E3) "one" = some none)
    (eg3_two : PySem.W.findIn K (.ref E3) "two" = some none)
    (ea4 : PySem.W.nsIn K mainGlobals "BadSize" = some (some (.ref E4)))
    {en4 eq4 : Str} {eb4 em4 : List Value} {esn4 : _} {esu4 : _} {eab4 : _} {eco4 : _} {edd4 : _} {ek04 : _} {ek14 : _} {ek24 : _} {ek34 : _} {ek54 : _}
    (el4 : K.lookup E4 = some (excClassObj en4 eq4 E4 Ex4 eb4 em4 true esn4 esu4 eab4 eco4 edd4 ek04 ek14 ek24 ek34 ek54 "ValueError.__new__")) (ev4 : PySem.HandSPX.refsVE em4 = true) (es4 : PySem.W.findIn K (.ref E4) "__setattr__" = some (some (.builtin "object.__setattr__"))) (et4 : PySem.W.subIn K (.ref E4) (.type "BaseException") = some true) (ey4 : PySem.W.typeIn K (.ref E4) = some (.type "type")) (ek4 : PySem.W.keepIn K (.ref E4) = true)
    (ei4 : PySem.W.findIn K (.ref E4) "__init__" = some (some (.ref Ef4))) (ej4 : PySem.W.typeIn K (.ref Ef4) = some (.type "function"))
    {eoc4 ekv4 edc4 epm4 ecd4 ect4 : Value} {eod4 ean4 : Option Addr} {esl4 : Array (Option Value)} (eu4 : K.lookup Ef4 = some ⟨eoc4, eod4, .func (PySem.W.fnOf "__init__" "BadSize.__init__" (defArgs s_BadSize_init) (defBody s_BadSize_init) (defScope s_BadSize_init) .none ekv4 edc4 epm4 ean4 ecd4 ect4), esl4⟩) (ew4 : PySem.W.codeIn K ecd4 "BadSize.__init__" = true) (ez4 : PySem.W.keepIn K (.ref Ef4) = true)
    (eg4_size : PySem.W.findIn K (.ref E4) "size" = some none)
    (xf_Table : PySem.W.selfFirst K C0 = true)
    {tk_MOST_NODES : Tok} (gc_MOST_NODES : PySem.W.nsIn K mainGlobals "MOST_NODES" = some (some (.int 24 tk_MOST_NODES)))
    {tk_MOST_WEIGHT : Tok} (gc_MOST_WEIGHT : PySem.W.nsIn K mainGlobals "MOST_WEIGHT" = some (some (.int 1000 tk_MOST_WEIGHT)))
    (z0 : PySem.W.nsIn K mainGlobals "abs" = some none)
    (z1 : PySem.W.nsIn K mainGlobals "all" = some none)
    (z2 : PySem.W.nsIn K mainGlobals "bool" = some none)
    (z3 : PySem.W.nsIn K mainGlobals "enumerate" = some none)
    (z4 : PySem.W.nsIn K mainGlobals "int" = some none)
    (z5 : PySem.W.nsIn K mainGlobals "isinstance" = some none)
    (z6 : PySem.W.nsIn K mainGlobals "len" = some none)
    (z7 : PySem.W.nsIn K mainGlobals "list" = some none)
    (z8 : PySem.W.nsIn K mainGlobals "range" = some none)
    (z9 : PySem.W.nsIn K mainGlobals "str" = some none)
    (z10 : PySem.W.nsIn K mainGlobals "sum" = some none)
    (z11 : PySem.W.nsIn K mainGlobals "tuple" = some none)
    (z12 : PySem.W.nsIn K mainGlobals "zip" = some none)
    (gg : PySem.W.nsIn K mainGlobals "gcd" = some (some (.builtin "math.gcd")))
    : ∃ fd : FuncData, (∀ (s : Shared) (u : Value), BindsTo s fd ⟨[u], []⟩ [("script", u)]) ∧ ∀ base : Heap, K.In base → base.Ns mainGlobals mg → FnOk P w K mg base (L2.CX P w) 11 fa fd ["script"] (spLaw K) := by
  have e := hfa.symm.trans (PySem.W.mg_of X G a42)
  cases e
  have T : Txt K mg :=
    { d_law_digits := defAt_mk X G a0 l0 c0 k0 fun _ _ _ _ _ _ us hl => match us, hl with | [_, _], _ => rfl
      d_law_gcd := defAt_mk X G a1 l1 c1 k1 fun _ _ _ _ _ _ us hl => match us, hl with | [_, _], _ => rfl
      d_law_fraction := defAt_mk X G a2 l2 c2 k2 fun _ _ _ _ _ _ us hl => match us, hl with | [_, _], _ => rfl
      d_law_table_rows2 := defAt_mk X G a3 l3 c3 k3 fun _ _ _ _ _ _ us hl => match us, hl with | [_, _], _ => rfl
      d_law_cell := defAt_mk X G a4 l4 c4 k4 fun _ _ _ _ _ _ us hl => match us, hl with | [_, _], _ => rfl
      d_law_added := defAt_mk X G a5 l5 c5 k5 fun _ _ _ _ _ _ us hl => match us, hl with | [_, _], _ => rfl
      d_law_split_rows2 := defAt_mk X G a6 l6 c6 k6 fun _ _ _ _ _ _ us hl => match us, hl with | [_, _], _ => rfl
      d_law_drawn_rows2 := defAt_mk X G a7 l7 c7 k7 fun _ _ _ _ _ _ us hl => match us, hl with | [_], _ => rfl
      d_is_number := defAt_mk X G a8 l8 c8 k8 fun _ _ _ _ _ _ us hl => match us, hl with | [_], _ => rfl
      d_as_fraction := defAt_mk X G a9 l9 c9 k9 fun _ _ _ _ _ _ us hl => match us, hl with | [_], _ => rfl
      d_checked_rows := defAt_mk X G a10 l10 c10 k10 fun _ _ _ _ _ _ us hl => match us, hl with | [_], _ => rfl
      d_frozen := defAt_mk X G a11 l11 c11 k11 fun _ _ _ _ _ _ us hl => match us, hl with | [_], _ => rfl
      d_Table_init := initAt_mk X G xc0 ya12 a12 yb12 yc12 l12 c12 k12 fun _ _ _ _ _ _ us hl => match us, hl with | [_, _], _ => rfl
      d_checked_lot := defAt_mk X G a13 l13 c13 k13 fun _ _ _ _ _ _ us hl => match us, hl with | [_, _], _ => rfl
      d_ratio := defAt_mk X G a14 l14 c14 k14 fun _ _ _ _ _ _ us hl => match us, hl with | [_, _], _ => rfl
      d_added := defAt_mk X G a15 l15 c15 k15 fun _ _ _ _ _ _ us hl => match us, hl with | [_, _], _ => rfl
      d_fraction_sum := defAt_mk X G a16 l16 c16 k16 fun _ _ _ _ _ _ us hl => match us, hl with | [_], _ => rfl
      d_weighed := defAt_mk X G a17 l17 c17 k17 fun _ _ _ _ _ _ us hl => match us, hl with | [_, _], _ => rfl
      d_turned_rows := defAt_mk X G a18 l18 c18 k18 fun _ _ _ _ _ _ us hl => match us, hl with | [_], _ => rfl
      d_Table_turned := methAt_mk X G xc0 (cls_mk xp0 xh0 xo0 xs0) a19 yb19 l19 c19 k19 fun _ _ _ _ _ _ us hl => match us, hl with | [_], _ => rfl
      d_halfway_table := defAt_mk X G a20 l20 c20 k20 fun _ _ _ _ _ _ us hl => match us, hl with | [_, _], _ => rfl
      d_law_total := defAt_mk X G a21 l21 c21 k21 fun _ _ _ _ _ _ us hl => match us, hl with | [_], _ => rfl
      d_law_any_lot := defAt_mk X G a22 l22 c22 k22 fun _ _ _ _ _ _ us hl => match us, hl with | [_, _], _ => rfl
      d_law_timed := defAt_mk X G a23 l23 c23 k23 fun _ _ _ _ _ _ us hl => match us, hl with | [_, _], _ => rfl
      d_law_weighed := defAt_mk X G a24 l24 c24 k24 fun _ _ _ _ _ _ us hl => match us, hl with | [_, _], _ => rfl
      d_law_day := defAt_mk X G a25 l25 c25 k25 fun _ _ _ _ _ _ us hl => match us, hl with | [_, _], _ => rfl
      d_law_whole := defAt_mk X G a26 l26 c26 k26 fun _ _ _ _ _ _ us hl => match us, hl with | [_], _ => rfl
      d_law_same := defAt_mk X G a27 l27 c27 k27 fun _ _ _ _ _ _ us hl => match us, hl with | [_, _], _ => rfl
      d_law_sum := defAt_mk X G a28 l28 c28 k28 fun _ _ _ _ _ _ us hl => match us, hl with | [_], _ => rfl
      d_law_break := defAt_mk X G a29 l29 c29 k29 fun _ _ _ _ _ _ us hl => match us, hl with | [_], _ => rfl
      d_day_sum := defAt_mk X G a30 l30 c30 k30 fun _ _ _ _ _ _ us hl => match us, hl with | [_, _], _ => rfl
      d_Table_eq := methAt_mk X G xc0 (cls_mk xp0 xh0 xo0 xs0) a31 yb31 l31 c31 k31 fun _ _ _ _ _ _ us hl => match us, hl with | [_, _], _ => rfl
      d_less := defAt_mk X G a32 l32 c32 k32 fun _ _ _ _ _ _ us hl => match us, hl with | [_, _], _ => rfl
      d_joined_rows := defAt_mk X G a33 l33 c33 k33 fun _ _ _ _ _ _ us hl => match us, hl with | [_, _, _], _ => rfl
      d_Table_add := methAt_mk X G xc0 (cls_mk xp0 xh0 xo0 xs0) a34 yb34 l34 c34 k34 fun _ _ _ _ _ _ us hl => match us, hl with | [_, _], _ => rfl
      d_line_sums := defAt_mk X G a35 l35 c35 k35 fun _ _ _ _ _ _ us hl => match us, hl with | [_], _ => rfl
      d_Table_row_sums := propAt_mk X G xc0 (cls_mk xp0 xh0 xo0 xs0) ya36 yb36 yc36 a36 l36 c36 k36 fun _ _ _ _ _ _ us hl => match us, hl with | [_], _ => rfl
      d_Table_column_sums := propAt_mk X G xc0 (cls_mk xp0 xh0 xo0 xs0) ya37 yb37 yc37 a37 l37 c37 k37 fun _ _ _ _ _ _ us hl => match us, hl with | [_], _ => rfl
      d_constant_load := defAt_mk X G a38 l38 c38 k38 fun _ _ _ _ _ _ us hl => match us, hl with | [_, _], _ => rfl
      d_plain_table := defAt_mk X G a39 l39 c39 k39 fun _ _ _ _ _ _ us hl => match us, hl with | [_, _], _ => rfl
      d_even_lot := defAt_mk X G a40 l40 c40 k40 fun _ _ _ _ _ _ us hl => match us, hl with | [_], _ => rfl
      d_Table_mean_day := propAt_mk X G xc0 (cls_mk xp0 xh0 xo0 xs0) ya41 yb41 yc41 a41 l41 c41 k41 fun _ _ _ _ _ _ us hl => match us, hl with | [_], _ => rfl
      z_abs := PySem.W.mg_none_of X G z0
      z_all := PySem.W.mg_none_of X G z1
      z_bool := PySem.W.mg_none_of X G z2
      z_enumerate := PySem.W.mg_none_of X G z3
      z_int := PySem.W.mg_none_of X G z4
      z_isinstance := PySem.W.mg_none_of X G z5
      z_len := PySem.W.mg_none_of X G z6
      z_list := PySem.W.mg_none_of X G z7
      z_range := PySem.W.mg_none_of X G z8
      z_str := PySem.W.mg_none_of X G z9
      z_sum := PySem.W.mg_none_of X G z10
      z_tuple := PySem.W.mg_none_of X G z11
      z_zip := PySem.W.mg_none_of X G z12
      f_Table_rows := fldAt_mk X G xc0 (cls_mk xp0 xh0 xo0 xs0) xf_Table_rows
      f_Table_size := fldAt_mk X G xc0 (cls_mk xp0 xh0 xo0 xs0) xf_Table_size
      i_Table_Table := clsI_mk (PySem.W.mg_of X G xc0) (clsI_all xt_Table_NoneType xt_Table_bool xt_Table_int xt_Table_str xt_Table_list xt_Table_tuple xt_Table_dict) (clsI_cons (PySem.W.mg_of X G xc0) (cls_mk xp0 xh0 xo0 xs0) ⟨xk_Table, xks, xkt, xm_Table⟩ xi_Table_Table clsI_nil)
      g_gcd := PySem.W.mg_of X G gg
      sf_Table := selfF_mk (PySem.W.mg_of X G xc0) xf_Table
      c_MOST_NODES := globI_mk (PySem.W.mg_of X G gc_MOST_NODES)
      c_MOST_WEIGHT := globI_mk (PySem.W.mg_of X G gc_MOST_WEIGHT)
      e_BadTable := errAt_mk X G ea0 el0 ev0 es0 et0 ey0 ek0 ei0 ej0 eu0 ew0 ez0 (fun _ _ _ _ _ _ us hl => match us, hl with | [_, _], _ => rfl) (errF eg0_index (fun g hg => nomatch hg))
      e0_BadLot := err0_mk (PySem.W.mg_of X G ea1) ex1 ek1 et1 ey1
      e0_ZeroBottom := err0_mk (PySem.W.mg_of X G ea2) ex2 ek2 et2 ey2
      e_SizesDiffer := errAt_mk X G ea3 el3 ev3 es3 et3 ey3 ek3 ei3 ej3 eu3 ew3 ez3 (fun _ _ _ _ _ _ us hl => match us, hl with | [_, _, _], _ => rfl) (errF eg3_one (errF eg3_two (fun g hg => nomatch hg)))
      e_BadSize := errAt_mk X G ea4 el4 ev4 es4 et4 ey4 ek4 ei4 ej4 eu4 ew4 ez4 (fun _ _ _ _ _ _ us hl => match us, hl with | [_, _], _ => rfl) (errF eg4_size (fun g hg => nomatch hg)) }
  exact ⟨_, fun s u => .of_eq rfl, fun base _ _ => law_imp (okf_law T (fun_mk (st := s_law) l42 c42 k42)) law_true⟩
end Kx
end
open PySem PySem.W PyProof.Rows
set_option maxRecDepth 100000 in
set_option maxHeartbeats 0 in
theorem PySem.Challenge.cw_nobadday_k56_own_halfway_holds : PySem.Challenge.rw_nobadday_k56_own_halfway.Holds := by
  w_on; o_law; k_head; (case hw => w_witness2)
  k_fill
  refine Da.walk_end (l := PySem.Challenge.rw_nobadday_k56_own_halfway) (k := 11) rfl rfl ⟨rfl, by decide, by decide⟩ (fun w h Y => PySem.W.kIn_of Y) ?F
  case F =>
    intro w mg fa h KX G hmg
    refine' Kx.all_mk KX G hmg ?xc0 ?xp0 ?xh0 ?xo0 ?xs0 ?xk_Table ?xm_Table ?xks ?xkt ?xt_Table_NoneType ?xt_Table_bool ?xt_Table_int ?xt_Table_str ?xt_Table_list ?xt_Table_tuple ?xt_Table_dict ?xi_Table_Table ?xf_Table_rows ?xf_Table_size ?a0 ?l0 ?c0 ?k0 ?a1 ?l1 ?c1 ?k1 ?a2 ?l2 ?c2 ?k2 ?a3 ?l3 ?c3 ?k3 ?a4 ?l4 ?c4 ?k4 ?a5 ?l5 ?c5 ?k5 ?a6 ?l6 ?c6 ?k6 ?a7 ?l7 ?c7 ?k7 ?a8 ?l8 ?c8 ?k8 ?a9 ?l9 ?c9 ?k9 ?a10 ?l10 ?c10 ?k10 ?a11 ?l11 ?c11 ?k11 ?a12 ?ya12 ?yb12 ?yc12 ?l12 ?c12 ?k12 ?a13 ?l13 ?c13 ?k13 ?a14 ?l14 ?c14 ?k14 ?a15 ?l15 ?c15 ?k15 ?a16 ?l16 ?c16 ?k16 ?a17 ?l17 ?c17 ?k17 ?a18 ?l18 ?c18 ?k18 ?a19 ?yb19 ?l19 ?c19 ?k19 ?a20 ?l20 ?c20 ?k20 ?a21 ?l21 ?c21 ?k21 ?a22 ?l22 ?c22 ?k22 ?a23 ?l23 ?c23 ?k23 ?a24 ?l24 ?c24 ?k24 ?a25 ?l25 ?c25 ?k25 ?a26 ?l26 ?c26 ?k26 ?a27 ?l27 ?c27 ?k27 ?a28 ?l28 ?c28 ?k28 ?a29 ?l29 ?c29 ?k29 ?a30 ?l30 ?c30 ?k30 ?a31 ?yb31 ?l31 ?c31 ?k31 ?a32 ?l32 ?c32 ?k32 ?a33 ?l33 ?c33 ?k33 ?a34 ?yb34 ?l34 ?c34 ?k34 ?a35 ?l35 ?c35 ?k35 ?ya36 ?a36 ?yb36 ?yc36 ?l36 ?c36 ?k36 ?ya37 ?a37 ?yb37 ?yc37 ?l37 ?c37 ?k37 ?a38 ?l38 ?c38 ?k38 ?a39 ?l39 ?c39 ?k39 ?a40 ?l40 ?c40 ?k40 ?ya41 ?a41 ?yb41 ?yc41 ?l41 ?c41 ?k41 ?a42 ?l42 ?c42 ?k42 ?ea0 ?el0 ?ev0 ?es0 ?et0 ?ey0 ?ek0 ?ei0 ?ej0 ?eu0 ?ew0 ?ez0 ?eg0_index ?ea1 ?ex1 ?ek1 ?et1 ?ey1 ?ea2 ?ex2 ?ek2 ?et2 ?ey2 ?ea3 ?el3 ?ev3 ?es3 ?et3 ?ey3 ?ek3 ?ei3 ?ej3 ?eu3 ?ew3 ?ez3 ?eg3_one ?eg3_two ?ea4 ?el4 ?ev4 ?es4 ?et4 ?ey4 ?ek4 ?ei4 ?ej4 ?eu4 ?ew4 ?ez4 ?eg4_size ?xf_Table ?gc_MOST_NODES ?gc_MOST_WEIGHT ?z0 ?z1 ?z2 ?z3 ?z4 ?z5 ?z6 ?z7 ?z8 ?z9 ?z10 ?z11 ?z12 ?gg
    (case xc0 => k_is); (case xp0 => k_is); (case xh0 => k_is); (case xo0 => k_is); (case xs0 => k_is); (case xk_Table => k_is); (case xm_Table => k_is); (case xks => k_is)
    (case xkt => k_is); (case xt_Table_NoneType => kernel_rfl); (case xt_Table_bool => kernel_rfl); (case xt_Table_int => kernel_rfl); (case xt_Table_str => kernel_rfl); (case xt_Table_list => kernel_rfl); (case xt_Table_tuple => kernel_rfl); (case xt_Table_dict => kernel_rfl)
    (case xi_Table_Table => kernel_rfl); (case xf_Table_rows => k_is); (case xf_Table_size => k_is); (case a0 => k_is); (case l0 => k_is); (case c0 => k_is); (case k0 => k_is); (case a1 => k_is)
    (case l1 => k_is); (case c1 => k_is); (case k1 => k_is); (case a2 => k_is); (case l2 => k_is); (case c2 => k_is); (case k2 => k_is); (case a3 => k_is)
    (case l3 => k_is); (case c3 => k_is); (case k3 => k_is); (case a4 => k_is); (case l4 => k_is); (case c4 => k_is); (case k4 => k_is); (case a5 => k_is)
    (case l5 => k_is); (case c5 => k_is); (case k5 => k_is); (case a6 => k_is); (case l6 => k_is); (case c6 => k_is); (case k6 => k_is); (case a7 => k_is)
    (case l7 => k_is); (case c7 => k_is); (case k7 => k_is); (case a8 => k_is); (case l8 => k_is); (case c8 => k_is); (case k8 => k_is); (case a9 => k_is)
    (case l9 => k_is); (case c9 => k_is); (case k9 => k_is); (case a10 => k_is); (case l10 => k_is); (case c10 => k_is); (case k10 => k_is); (case a11 => k_is)
    (case l11 => k_is); (case c11 => k_is); (case k11 => k_is); (case a12 => k_is); (case ya12 => k_is); (case yb12 => k_is); (case yc12 => k_is); (case l12 => k_is)
    (case c12 => k_is); (case k12 => k_is); (case a13 => k_is); (case l13 => k_is); (case c13 => k_is); (case k13 => k_is); (case a14 => k_is); (case l14 => k_is)
    (case c14 => k_is); (case k14 => k_is); (case a15 => k_is); (case l15 => k_is); (case c15 => k_is); (case k15 => k_is); (case a16 => k_is); (case l16 => k_is)
    (case c16 => k_is); (case k16 => k_is); (case a17 => k_is); (case l17 => k_is); (case c17 => k_is); (case k17 => k_is); (case a18 => k_is); (case l18 => k_is)
    (case c18 => k_is); (case k18 => k_is); (case a19 => k_is); (case yb19 => k_is); (case l19 => k_is); (case c19 => k_is); (case k19 => k_is); (case a20 => k_is)
    (case l20 => k_is); (case c20 => k_is); (case k20 => k_is); (case a21 => k_is); (case l21 => k_is); (case c21 => k_is); (case k21 => k_is); (case a22 => k_is)
    (case l22 => k_is); (case c22 => k_is); (case k22 => k_is); (case a23 => k_is); (case l23 => k_is); (case c23 => k_is); (case k23 => k_is); (case a24 => k_is)
    (case l24 => k_is); (case c24 => k_is); (case k24 => k_is); (case a25 => k_is); (case l25 => k_is); (case c25 => k_is); (case k25 => k_is); (case a26 => k_is)
    (case l26 => k_is); (case c26 => k_is); (case k26 => k_is); (case a27 => k_is); (case l27 => k_is); (case c27 => k_is); (case k27 => k_is); (case a28 => k_is)
    (case l28 => k_is); (case c28 => k_is); (case k28 => k_is); (case a29 => k_is); (case l29 => k_is); (case c29 => k_is); (case k29 => k_is); (case a30 => k_is)
    (case l30 => k_is); (case c30 => k_is); (case k30 => k_is); (case a31 => k_is); (case yb31 => k_is); (case l31 => k_is); (case c31 => k_is); (case k31 => k_is)
    (case a32 => k_is); (case l32 => k_is); (case c32 => k_is); (case k32 => k_is); (case a33 => k_is); (case l33 => k_is); (case c33 => k_is); (case k33 => k_is)
    (case a34 => k_is); (case yb34 => k_is); (case l34 => k_is); (case c34 => k_is); (case k34 => k_is); (case a35 => k_is); (case l35 => k_is); (case c35 => k_is)
    (case k35 => k_is); (case ya36 => k_is); (case a36 => k_is); (case yb36 => k_is); (case yc36 => k_is); (case l36 => k_is); (case c36 => k_is); (case k36 => k_is)
    (case ya37 => k_is); (case a37 => k_is); (case yb37 => k_is); (case yc37 => k_is); (case l37 => k_is); (case c37 => k_is); (case k37 => k_is); (case a38 => k_is)
    (case l38 => k_is); (case c38 => k_is); (case k38 => k_is); (case a39 => k_is); (case l39 => k_is); (case c39 => k_is); (case k39 => k_is); (case a40 => k_is)
    (case l40 => k_is); (case c40 => k_is); (case k40 => k_is); (case ya41 => k_is); (case a41 => k_is); (case yb41 => k_is); (case yc41 => k_is); (case l41 => k_is)
    (case c41 => k_is); (case k41 => k_is); (case a42 => k_is); (case l42 => k_is); (case c42 => k_is); (case k42 => k_is); (case ea0 => k_is); (case el0 => k_is)
    (case ev0 => kernel_rfl); (case es0 => k_is); (case et0 => k_is); (case ey0 => k_is); (case ek0 => k_is); (case ei0 => k_is); (case ej0 => k_is); (case eu0 => k_is)
    (case ew0 => k_is); (case ez0 => k_is); (case eg0_index => k_is); (case ea1 => k_is); (case ex1 => kernel_rfl); (case ek1 => k_is); (case et1 => k_is); (case ey1 => k_is)
    (case ea2 => k_is); (case ex2 => kernel_rfl); (case ek2 => k_is); (case et2 => k_is); (case ey2 => k_is); (case ea3 => k_is); (case el3 => k_is); (case ev3 => kernel_rfl)
    (case es3 => k_is); (case et3 => k_is); (case ey3 => k_is); (case ek3 => k_is); (case ei3 => k_is); (case ej3 => k_is); (case eu3 => k_is); (case ew3 => k_is)
    (case ez3 => k_is); (case eg3_one => k_is); (case eg3_two => k_is); (case ea4 => k_is); (case el4 => k_is); (case ev4 => kernel_rfl); (case es4 => k_is); (case et4 => k_is)
    (case ey4 => k_is); (case ek4 => k_is); (case ei4 => k_is); (case ej4 => k_is); (case eu4 => k_is); (case ew4 => k_is); (case ez4 => k_is); (case eg4_size => k_is)
    (case xf_Table => k_is); (case gc_MOST_NODES => k_is); (case gc_MOST_WEIGHT => k_is); (case z0 => k_is); (case z1 => k_is); (case z2 => k_is); (case z3 => k_is); (case z4 => k_is)
    (case z5 => k_is); (case z6 => k_is); (case z7 => k_is); (case z8 => k_is); (case z9 => k_is); (case z10 => k_is); (case z11 => k_is); (case z12 => k_is)
    (case gg => k_is)
#print axioms PySem.Challenge.cw_nobadday_k56_own_halfway_holds
