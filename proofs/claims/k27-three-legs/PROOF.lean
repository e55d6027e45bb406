import PyProof.Rows.All
import Wide.All
import OpenK.AllK
import Wide.FinOn
import HandS.ForMost
import HandS.EndBits
import HandS.ForExc
import HandS.Wide
import HandS.Conv
import HandS.Style
import HandS.IsInst
import HandS.TupAny
import HandS.TupMul
import HandS.Deep
import HandS.Gcd
import HandS.Flow
import HandS.RevRange
import HandS.Rev
import HandS.Zip
import KE.SortData
import KE.GoesMore
import KE.OsSorts
import HandS.DictComp
import KE.KIndexOf
import HandS.Property
import KE.DataMinMax
import HandS.ExcInit
import HandS.ExcField
import HandS.ExcIs
import HandS.ExcOwn
import KE.KExcIs
import HandS.TupSets
import HandS.SetBool
import HandS.SetFor
import PyProof.Rows.SetFrom
import KE.KTupSum
import PyProof.DictUpdate
import HandS.HotCalls
import PySem.Challenge.RW_nobadday_k27_three_legs_whole
set_option Elab.async false
set_option linter.all false
set_option maxRecDepth 100000
set_option maxHeartbeats 4000000
noncomputable section
namespace Da
open PySem PySem.Spec L2
/-- a check that nobody reckons out -/
@[irreducible] def stuck (p : Prop) : Bool := @decide p (Classical.propDecidable p)
theorem stuck_iff {p : Prop} : stuck p = true ↔ p := by unfold stuck; exact @decide_eq_true_iff p (Classical.propDecidable p)
/-- data, without the heap -/
inductive D where
  | non | bl (b : Bool) | int (i : Int) | str (s : Str)
  | lst (xs : List D) | tup (xs : List D) | frl (xs : List D)
  | dic (ks : List Key) (vs : List D) | dit (ks : List (List Key)) (vs : List D)
  | obj (c : Str) (ns : List Str) (vs : List D)
  /-- an error that an except suite holds -/
  | exc (c : Str) (ns : List Str) (vs : List D)
/-- what a run gives: a value, an own exception with its arguments, or nothing that is known -/
inductive Res (α : Type) where
  | ok (a : α) | ex (c : Str) (fs : List (Str × D)) | er
namespace Res
def bind {α β : Type} (r : Res α) (f : α → Res β) : Res β := match r with
  | .ok a => f a
  | .ex c fs => .ex c fs
  | .er => .er
@[simp] theorem bind_ok {α β : Type} (a : α) (f : α → Res β) : (Res.ok a).bind f = f a := rfl
@[simp] theorem bind_ex {α β : Type} (c : Str) (as : List (Str × D)) (f : α → Res β) : (Res.ex c as : Res α).bind f = .ex c as := rfl
@[simp] theorem bind_er {α β : Type} (f : α → Res β) : (Res.er : Res α).bind f = .er := rfl
end Res
/-- the value v stands for the data d, read in the view S -/
inductive Rep (K : PySem.W.Frag) (mg : Str → Option Value) (S : Hp) : V → D → Prop where
  | non : Rep K mg S .non .non
  | bl (b : Bool) : Rep K mg S (.bl b) (.bl b)
  | int (i : Int) : Rep K mg S (.int i) (.int i)
  | str (x : Str) : Rep K mg S (.str x) (.str x)
  | lst {a : Addr} {vs : List V} {ds : List D} (h : S a = some (.lst vs)) (hl : vs.length = ds.length) (hi : ∀ (i : Nat) (v : V) (d : D), vs[i]? = some v → ds[i]? = some d → Rep K mg S v d) : Rep K mg S (.ref a) (.lst ds)
  | tup {a : Addr} {vs : List V} {ds : List D} (h : S a = some (.tup vs)) (hl : vs.length = ds.length) (hi : ∀ (i : Nat) (v : V) (d : D), vs[i]? = some v → ds[i]? = some d → Rep K mg S v d) : Rep K mg S (.ref a) (.tup ds)
  | frl {a : Addr} {vs : List V} {ds : List D} (h : SqL K S a vs) (hl : vs.length = ds.length) (hi : ∀ (i : Nat) (v : V) (d : D), vs[i]? = some v → ds[i]? = some d → Rep K mg S v d) : Rep K mg S (.ref a) (.frl ds)
  | dic {a : Addr} {kvs : List (Key × V)} {ds : List D} (h : Rd S a (.dK kvs)) (hl : kvs.length = ds.length) (hi : ∀ (i : Nat) (p : Key × V) (d : D), kvs[i]? = some p → ds[i]? = some d → Rep K mg S p.2 d) : Rep K mg S (.ref a) (.dic (kvs.map (·.1)) ds)
  | dit {a : Addr} {kvs : List (List Key × V)} {ds : List D} (h : S a = some (.dT kvs)) (hl : kvs.length = ds.length) (hi : ∀ (i : Nat) (p : List Key × V) (d : D), kvs[i]? = some p → ds[i]? = some d → Rep K mg S p.2 d) : Rep K mg S (.ref a) (.dit (kvs.map (·.1)) ds)
  | obj {a C dx : Addr} {c : Str} {fs : List (Str × V)} {ds : List D} (h : S a = some (.ins C dx fs)) (hm : mg c = some (.ref C)) (hl : fs.length = ds.length) (hi : ∀ (i : Nat) (p : Str × V) (d : D), fs[i]? = some p → ds[i]? = some d → Rep K mg S p.2 d) : Rep K mg S (.ref a) (.obj c (fs.map (·.1)) ds)
  | exc {a : Addr} {c : Str} {ns : List Str} {ds : List D} : Rep K mg S (.ref a) (.exc c ns ds)
section
variable {K : PySem.W.Frag} {mg : Str → Option Value} {S S' H H' : Hp}
theorem same_rd {a : Addr} {u : HO} (e : Same S S') (h : Rd S a u) : Rd S' a u := by
  rcases h with h | ⟨o, h⟩
  · exact .inl (e _ _ h)
  · exact .inr ⟨o, e _ _ h⟩
theorem same_l {a : Addr} {xs : List V} (e : Same S S') (h : SqL K S a xs) : SqL K S' a xs := by
  rcases h with h | h
  · exact .inl (same_rd e h)
  · exact .inr h
theorem same_t {a : Addr} {xs : List V} (e : Same S S') (h : SqT K S a xs) : SqT K S' a xs := by
  rcases h with h | h
  · exact .inl (same_rd e h)
  · exact .inr h
theorem Rep.mono {v : V} {d : D} (e : Same S S') (h : Rep K mg S v d) : Rep K mg S' v d := by
  induction h with
  | non => exact .non
  | bl b => exact .bl b
  | int i => exact .int i
  | str x => exact .str x
  | lst h hl _ ih => exact .lst (e _ _ h) hl ih
  | frl h hl _ ih => exact .frl (same_l e h) hl ih
  | tup h hl _ ih => exact .tup (e _ _ h) hl ih
  | dic h hl _ ih => exact .dic (same_rd e h) hl ih
  | dit h hl _ ih => exact .dit (e _ _ h) hl ih
  | obj h hm hl _ ih => exact .obj (e _ _ h) hm hl ih
  | exc => exact .exc
/-- item by item -/
structure RepL (K : PySem.W.Frag) (mg : Str → Option Value) (S : Hp) (vs : List V) (ds : List D) : Prop where
  len : vs.length = ds.length
  at_ : ∀ (i : Nat) (v : V) (d : D), vs[i]? = some v → ds[i]? = some d → Rep K mg S v d
theorem RepL.mono {vs : List V} {ds : List D} (e : Same S S') (h : RepL K mg S vs ds) : RepL K mg S' vs ds := ⟨h.len, fun i v d a b => (h.at_ i v d a b).mono e⟩
theorem RepL.nil : RepL K mg S [] [] := ⟨rfl, fun i v d a _ => by simp at a⟩
theorem RepL.cons {v : V} {d : D} {vs : List V} {ds : List D} (h : Rep K mg S v d) (t : RepL K mg S vs ds) : RepL K mg S (v :: vs) (d :: ds) := by
  refine ⟨by rw [List.length_cons, List.length_cons, t.len], fun i w e a b => ?_⟩
  cases i with
  | zero =>
    rw [List.getElem?_cons_zero] at a b
    cases a; cases b
    exact h
  | succ i =>
    rw [List.getElem?_cons_succ] at a b
    exact t.at_ i w e a b
theorem RepL.head {v : V} {d : D} {vs : List V} {ds : List D} (t : RepL K mg S (v :: vs) (d :: ds)) : Rep K mg S v d := t.at_ 0 v d rfl rfl
theorem RepL.tail {v : V} {d : D} {vs : List V} {ds : List D} (t : RepL K mg S (v :: vs) (d :: ds)) : RepL K mg S vs ds :=
  ⟨by have := t.len; simpa using this, fun i w e a b => t.at_ (i + 1) w e (by simpa using a) (by simpa using b)⟩
theorem RepL.get {vs : List V} {ds : List D} {i : Nat} {d : D} (t : RepL K mg S vs ds) (h : ds[i]? = some d) : ∃ v, vs[i]? = some v ∧ Rep K mg S v d := by
  have hi := (List.getElem?_eq_some_iff.mp h).1
  have hv : i < vs.length := by rw [t.len]; exact hi
  exact ⟨vs[i], List.getElem?_eq_getElem hv, t.at_ i _ d (List.getElem?_eq_getElem hv) h⟩
theorem RepL.append {vs ws : List V} {ds es : List D} (t : RepL K mg S vs ds) (u : RepL K mg S ws es) : RepL K mg S (vs ++ ws) (ds ++ es) := by
  refine ⟨by rw [List.length_append, List.length_append, t.len, u.len], fun i w e a b => ?_⟩
  by_cases h : i < vs.length
  · rw [List.getElem?_append_left h] at a
    rw [List.getElem?_append_left (by rw [← t.len]; exact h)] at b
    exact t.at_ i w e a b
  · rw [List.getElem?_append_right (by omega)] at a
    rw [List.getElem?_append_right (by rw [← t.len]; omega), ← t.len] at b
    exact u.at_ _ w e a b
theorem RepL.snoc {vs : List V} {ds : List D} {v : V} {d : D} (t : RepL K mg S vs ds) (h : Rep K mg S v d) : RepL K mg S (vs ++ [v]) (ds ++ [d]) := t.append (.cons h .nil)
theorem RepL.set {vs : List V} {ds : List D} {v : V} {d : D} (t : RepL K mg S vs ds) (j : Nat) (h : Rep K mg S v d) : RepL K mg S (vs.set j v) (ds.set j d) := by
  refine ⟨by rw [List.length_set, List.length_set, t.len], fun i w e a b => ?_⟩
  rw [List.getElem?_set] at a b
  by_cases hj : j = i
  · subst hj
    rw [if_pos rfl] at a b
    split at a
    · rename_i h1
      rw [if_pos (by rw [← t.len]; exact h1)] at b
      cases a; cases b
      exact h
    · cases a
  · rw [if_neg hj] at a b
    exact t.at_ i w e a b
theorem RepL.take {vs : List V} {ds : List D} (n : Nat) (t : RepL K mg S vs ds) : RepL K mg S (vs.take n) (ds.take n) := by
  refine ⟨by rw [List.length_take, List.length_take, t.len], fun i w e a b => ?_⟩
  rw [List.getElem?_take] at a b
  split at a
  · rename_i h
    rw [if_pos h] at b
    exact t.at_ i w e a b
  · cases a
theorem RepL.drop {vs : List V} {ds : List D} (n : Nat) (t : RepL K mg S vs ds) : RepL K mg S (vs.drop n) (ds.drop n) := by
  refine ⟨by rw [List.length_drop, List.length_drop, t.len], fun i w e a b => ?_⟩
  rw [List.getElem?_drop] at a b
  exact t.at_ _ w e a b
theorem RepL.eraseIdx {vs : List V} {ds : List D} (n : Nat) (t : RepL K mg S vs ds) : RepL K mg S (vs.eraseIdx n) (ds.eraseIdx n) := by
  rw [List.eraseIdx_eq_take_drop_succ, List.eraseIdx_eq_take_drop_succ]
  exact (t.take n).append (t.drop (n + 1))
theorem Rep.lstL {a : Addr} {vs : List V} {ds : List D} (h : S a = some (.lst vs)) (t : RepL K mg S vs ds) : Rep K mg S (.ref a) (.lst ds) := .lst h t.len t.at_
theorem Rep.tupL {a : Addr} {vs : List V} {ds : List D} (h : S a = some (.tup vs)) (t : RepL K mg S vs ds) : Rep K mg S (.ref a) (.tup ds) := .tup h t.len t.at_
theorem Rep.of_lst {v : V} {ds : List D} (h : Rep K mg S v (.lst ds)) : ∃ a vs, v = .ref a ∧ S a = some (.lst vs) ∧ RepL K mg S vs ds := by
  cases h with
  | lst h hl hi => exact ⟨_, _, rfl, h, hl, hi⟩
theorem Rep.of_frl {v : V} {ds : List D} (h : Rep K mg S v (.frl ds)) : ∃ a vs, v = .ref a ∧ SqL K S a vs ∧ RepL K mg S vs ds := by
  cases h with
  | frl h hl hi => exact ⟨_, _, rfl, h, hl, hi⟩
theorem Rep.of_tupS {v : V} {ds : List D} (h : Rep K mg S v (.tup ds)) : ∃ a vs, v = .ref a ∧ S a = some (.tup vs) ∧ RepL K mg S vs ds := by
  cases h with
  | tup h hl hi => exact ⟨_, _, rfl, h, hl, hi⟩
theorem Rep.of_tup {v : V} {ds : List D} (h : Rep K mg S v (.tup ds)) : ∃ a vs, v = .ref a ∧ SqT K S a vs ∧ RepL K mg S vs ds := by
  obtain ⟨a, vs, e, h, r⟩ := h.of_tupS
  exact ⟨a, vs, e, .inl (.inl h), r⟩
theorem Rep.of_int {v : V} {i : Int} (h : Rep K mg S v (.int i)) : v = .int i := by cases h; rfl
theorem Rep.of_bl {v : V} {i : Bool} (h : Rep K mg S v (.bl i)) : v = .bl i := by cases h; rfl
/-- whole numbers -/
theorem RepL.ints : ∀ {vs : List V} {ns : List Int}, RepL K mg S vs (ns.map D.int) → vs = ns.map V.int
  | [], [], _ => rfl
  | [], _ :: _, h => by have := h.len; simp at this
  | _ :: _, [], h => by have := h.len; simp at this
  | v :: vs, n :: ns, h => by
    have e1 := h.head.of_int
    have e2 := RepL.ints (ns := ns) h.tail
    rw [e1, e2]
    rfl
theorem RepL.bls : ∀ {vs : List V} {ns : List Bool}, RepL K mg S vs (ns.map D.bl) → vs = ns.map V.bl
  | [], [], _ => rfl
  | [], _ :: _, h => by have := h.len; simp at this
  | _ :: _, [], h => by have := h.len; simp at this
  | v :: vs, n :: ns, h => by
    have e1 := h.head.of_bl
    have e2 := RepL.bls (ns := ns) h.tail
    rw [e1, e2]
    rfl
theorem RepL.of_ints : ∀ (ns : List Int), RepL K mg S (ns.map V.int) (ns.map D.int)
  | [] => .nil
  | n :: ns => .cons (.int n) (RepL.of_ints ns)
/-- from the view S of H to the view S' of H': all that stood stands; what the view has more is new -/
structure Step (S H S' H' : Hp) : Prop where
  hh : Same H H'
  ss : Same S S'
  sub : Same S' H'
  new : ∀ a, S' a ≠ none → S a ≠ none ∨ H a = none
theorem Step.refl (h : Same S H) : Step S H S H := ⟨Same.refl _, Same.refl _, h, fun _ x => .inl x⟩
theorem Step.trans {S1 H1 S2 H2 : Hp} (a : Step S H S1 H1) (b : Step S1 H1 S2 H2) : Step S H S2 H2 :=
  ⟨a.hh.trans b.hh, a.ss.trans b.ss, b.sub, fun x h => by
    rcases b.new x h with h | h
    · exact a.new x h
    · exact .inr (a.hh.free h)⟩
theorem Same.upd_new {H : Hp} {p : Addr} {o : HO} (h : H p = none) : Same H (upd H p o) := fun b x e => by
  rw [upd_ne (ne_of_none e h)]
  exact e
/-- a new object that the view takes in -/
theorem Step.laid {p : Addr} {o : HO} (h : Same S H) (hp : H p = none) : Step S H (upd S p o) (upd H p o) := by
  have sp : S p = none := h.free hp
  refine ⟨Same.upd_new hp, Same.upd_new sp, fun b x e => ?_, fun a x => ?_⟩
  · by_cases hb : b = p
    · subst hb
      rw [upd_same] at e ⊢
      exact e
    · rw [upd_ne hb] at e ⊢
      exact h b x e
  · by_cases ha : a = p
    · subst ha
      exact .inr hp
    · rw [upd_ne ha] at x
      exact .inl x
/-- a new object that the view does not take in -/
theorem Step.hid {p : Addr} {o : HO} (h : Same S H) (hp : H p = none) : Step S H S (upd H p o) :=
  ⟨Same.upd_new hp, Same.refl _, h.trans (Same.upd_new hp), fun _ x => .inl x⟩
theorem some_of_ne {α : Type} {o : Option α} (h : o ≠ none) : ∃ a, o = some a := by
  cases o with
  | none => exact absurd rfl h
  | some a => exact ⟨a, rfl⟩
theorem Step.out {S H S' H' : Hp} (a : Step S H S' H') {p : Addr} {o : HO} (h : S p = none) (hp : H p = some o) : S' p = none := by
  cases e : S' p with
  | none => rfl
  | some u =>
    rcases a.new p (by rw [e]; exact fun z => nomatch z) with z | z
    · exact absurd h z
    · rw [hp] at z; cases z
end
/-- shared data; a list that is the slot's own; an own list of own lists; an own dict (keys ints and texts; tuples) -/
inductive Md where
  | sh | ow | ow2 | dk | dt | ob (p : Addr) | ex (a : Addr) (cls : Value) (dd : Option Addr)
  /-- an own list that stands at q; an own tree of lists, n deep, one of whose lists is lent, that stands at a known place -/
  | owq (q : Addr) | tr (n : Nat) (h : Option (Nat × Addr)) (at_ : Option Addr)
  deriving DecidableEq
/-- what stands in the place of a list that is lent -/
def junk : D := .exc "" [] []
/-- a tree of lists of one's own, n deep -/
def OwnTr (K : PySem.W.Frag) (mg : Str → Option Value) (S H : Hp) : Nat → List Addr → V → D → Prop
  | 0, fp, v, d => Rep K mg S v d ∧ fp = []
  | n + 1, fp, v, d => ∃ (p : Addr) (vs : List V) (ds : List D) (fps : List (List Addr)), v = .ref p ∧ d = .lst ds ∧ fp = p :: fps.flatten ∧ S p = none ∧ H p = some (.lst vs) ∧ vs.length = ds.length ∧ fps.length = ds.length ∧
      ∀ (j : Nat) (w : V) (e : D) (f : List Addr), vs[j]? = some w → ds[j]? = some e → fps[j]? = some f → OwnTr K mg S H n f w e
/-- .. whose list number k, at q, is lent -/
def OwnTh (K : PySem.W.Frag) (mg : Str → Option Value) (S H : Hp) (n k : Nat) (q : Addr) (fp : List Addr) (v : V) (d : D) : Prop :=
  ∃ (p : Addr) (vs : List V) (ds : List D) (fps : List (List Addr)), v = .ref p ∧ d = .lst ds ∧ fp = p :: fps.flatten ∧ S p = none ∧ H p = some (.lst vs) ∧ vs.length = ds.length ∧ fps.length = ds.length ∧
      vs[k]? = some (.ref q) ∧ ds[k]? = some junk ∧ fps[k]? = some [] ∧
      ∀ (j : Nat) (w : V) (e : D) (f : List Addr), j ≠ k → vs[j]? = some w → ds[j]? = some e → fps[j]? = some f → OwnTr K mg S H n f w e
/-- what v is under the mode, in the view S of H, standing at the addresses fp -/
def OwnAt (K : PySem.W.Frag) (mg : Str → Option Value) (S H : Hp) (fp : List Addr) (v : V) (d : D) : Md → Prop
  | .sh => Rep K mg S v d ∧ fp = []
  | .ow => ∃ p vs ds, v = .ref p ∧ d = .lst ds ∧ fp = [p] ∧ S p = none ∧ H p = some (.lst vs) ∧ RepL K mg S vs ds
  | .ow2 => ∃ (p : Addr) (ps : List Addr) (dss : List (List D)), v = .ref p ∧ d = .lst (dss.map D.lst) ∧ fp = p :: ps ∧ S p = none ∧ H p = some (.lst (ps.map V.ref)) ∧ ps.length = dss.length ∧
      ∀ (j : Nat) (q : Addr) (ds : List D), ps[j]? = some q → dss[j]? = some ds → S q = none ∧ ∃ vs, H q = some (.lst vs) ∧ RepL K mg S vs ds
  | .dk => ∃ (p : Addr) (kvs : List (Key × V)) (ds : List D), v = .ref p ∧ d = .dic (kvs.map (·.1)) ds ∧ fp = [p] ∧ S p = none ∧ H p = some (.dK kvs) ∧ RepL K mg S (kvs.map (·.2)) ds
  | .dt => ∃ (p : Addr) (kvs : List (List Key × V)) (ds : List D), v = .ref p ∧ d = .dit (kvs.map (·.1)) ds ∧ fp = [p] ∧ S p = none ∧ H p = some (.dT kvs) ∧ RepL K mg S (kvs.map (·.2)) ds
  | .ob p => ∃ (dx C : Addr) (c : Str) (fs : List (Str × V)) (ds : List D), v = .ref p ∧ d = .obj c (fs.map (·.1)) ds ∧ fp = [p, dx] ∧ S p = none ∧ S dx = none ∧ mg c = some (.ref C) ∧ H p = some (.ins C dx fs) ∧ H dx = some (.own p) ∧ RepL K mg S (fs.map (·.2)) ds
  | .owq q => v = .ref q ∧ ∃ p vs ds, v = .ref p ∧ d = .lst ds ∧ fp = [p] ∧ S p = none ∧ H p = some (.lst vs) ∧ RepL K mg S vs ds
  | .tr n none a => (∀ q, a = some q → v = .ref q) ∧ OwnTr K mg S H n fp v d
  | .tr n (some (k, q)) a => (∀ q, a = some q → v = .ref q) ∧ OwnTh K mg S H (n - 1) k q fp v d
  | .ex a cls dd => ∃ (c : Str) (vfs : List (Str × V)) (ds : List D), v = .ref a ∧ d = .exc c (vfs.map (·.1)) ds ∧ fp = [] ∧ mg c = some cls ∧ ((vfs = [] ∧ dd = none) ∨ ∃ dx, dd = some dx ∧ S dx = some (.xd vfs)) ∧ RepL K mg S (vfs.map (·.2)) ds
section
variable {K : PySem.W.Frag} {mg : Str → Option Value} {S S' H H' : Hp} {fp : List Addr} {v : V} {d : D} {md : Md}
theorem mem_flat {fps : List (List Addr)} {a : Addr} (h : a ∈ fps.flatten) : ∃ (j : Nat) (f : List Addr), fps[j]? = some f ∧ a ∈ f := by
  obtain ⟨f, hf, ha⟩ := List.mem_flatten.mp h
  obtain ⟨j, hj⟩ := List.mem_iff_getElem?.mp hf
  exact ⟨j, f, hj, ha⟩
theorem flat_mem {fps : List (List Addr)} {a : Addr} {j : Nat} {f : List Addr} (hj : fps[j]? = some f) (ha : a ∈ f) : a ∈ fps.flatten := List.mem_flatten.mpr ⟨f, List.mem_of_getElem? hj, ha⟩
theorem OwnTr.step (a : Step S H S' H') : ∀ {n : Nat} {fp : List Addr} {v : V} {d : D}, OwnTr K mg S H n fp v d → OwnTr K mg S' H' n fp v d
  | 0, _, _, _, h => ⟨h.1.mono a.ss, h.2⟩
  | n + 1, _, _, _, h => by
    obtain ⟨p, vs, ds, fps, e1, e2, e3, e4, e5, e6, e7, e8⟩ := h
    exact ⟨p, vs, ds, fps, e1, e2, e3, a.out e4 e5, a.hh _ _ e5, e6, e7, fun j w e f x y z => (e8 j w e f x y z).step a⟩
theorem OwnTr.out : ∀ {n : Nat} {fp : List Addr} {v : V} {d : D}, OwnTr K mg S H n fp v d → ∀ {a : Addr}, a ∈ fp → S a = none ∧ ∃ o, H a = some o
  | 0, _, _, _, h, a, ha => by rw [h.2] at ha; cases ha
  | n + 1, _, _, _, h, a, ha => by
    obtain ⟨p, vs, ds, fps, e1, e2, e3, e4, e5, e6, e7, e8⟩ := h
    rw [e3] at ha
    rcases List.mem_cons.mp ha with rfl | ha
    · exact ⟨e4, _, e5⟩
    · obtain ⟨j, f, hj, hf⟩ := mem_flat ha
      have hl := (List.getElem?_eq_some_iff.mp hj).1
      exact (e8 j _ _ f (List.getElem?_eq_getElem (by omega)) (List.getElem?_eq_getElem (by omega)) hj).out hf
theorem OwnTr.other {p : Addr} {o : HO} (hp : S p = none) : ∀ {n : Nat} {fp : List Addr} {v : V} {d : D}, p ∉ fp → OwnTr K mg S H n fp v d → OwnTr K mg S (upd H p o) n fp v d
  | 0, _, _, _, _, h => h
  | n + 1, _, _, _, hf, h => by
    obtain ⟨q, vs, ds, fps, e1, e2, e3, e4, e5, e6, e7, e8⟩ := h
    refine ⟨q, vs, ds, fps, e1, e2, e3, e4, ?_, e6, e7, fun j w e f x y z => (e8 j w e f x y z).other hp fun i => hf ?_⟩
    · rw [upd_ne (fun z => hf (by rw [e3, z]; exact List.mem_cons_self))]
      exact e5
    · rw [e3]; exact List.mem_cons_of_mem _ (flat_mem z i)
theorem OwnTh.step {n k : Nat} {q : Addr} (a : Step S H S' H') (h : OwnTh K mg S H n k q fp v d) : OwnTh K mg S' H' n k q fp v d := by
  obtain ⟨p, vs, ds, fps, e1, e2, e3, e4, e5, e6, e7, h1, h2, h3, e8⟩ := h
  exact ⟨p, vs, ds, fps, e1, e2, e3, a.out e4 e5, a.hh _ _ e5, e6, e7, h1, h2, h3, fun j w e f i x y z => (e8 j w e f i x y z).step a⟩
theorem OwnTh.out {n k : Nat} {q : Addr} (h : OwnTh K mg S H n k q fp v d) {a : Addr} (ha : a ∈ fp) : S a = none ∧ ∃ o, H a = some o := by
  obtain ⟨p, vs, ds, fps, e1, e2, e3, e4, e5, e6, e7, h1, h2, h3, e8⟩ := h
  rw [e3] at ha
  rcases List.mem_cons.mp ha with rfl | ha
  · exact ⟨e4, _, e5⟩
  · obtain ⟨j, f, hj, hf⟩ := mem_flat ha
    have hl := (List.getElem?_eq_some_iff.mp hj).1
    have hjk : j ≠ k := fun z => by subst z; rw [h3] at hj; cases hj; cases hf
    exact (e8 j _ _ f hjk (List.getElem?_eq_getElem (by omega)) (List.getElem?_eq_getElem (by omega)) hj).out hf
theorem OwnTh.other {n k : Nat} {q : Addr} {p : Addr} {o : HO} (hp : S p = none) (hf : p ∉ fp) (h : OwnTh K mg S H n k q fp v d) : OwnTh K mg S (upd H p o) n k q fp v d := by
  obtain ⟨p', vs, ds, fps, e1, e2, e3, e4, e5, e6, e7, h1, h2, h3, e8⟩ := h
  refine ⟨p', vs, ds, fps, e1, e2, e3, e4, ?_, e6, e7, h1, h2, h3, fun j w e f i x y z => (e8 j w e f i x y z).other hp fun i => hf ?_⟩
  · rw [upd_ne (fun z => hf (by rw [e3, z]; exact List.mem_cons_self))]
    exact e5
  · rw [e3]; exact List.mem_cons_of_mem _ (flat_mem z i)
theorem OwnAt.step (a : Step S H S' H') (h : OwnAt K mg S H fp v d md) : OwnAt K mg S' H' fp v d md := by
  cases md with
  | owq q0 =>
    obtain ⟨e0, p, vs, ds, e1, e2, e3, e4, e5, e6⟩ := h
    exact ⟨e0, p, vs, ds, e1, e2, e3, a.out e4 e5, a.hh _ _ e5, e6.mono a.ss⟩
  | tr n b at_ =>
    cases b with
    | none => exact ⟨h.1, h.2.step a⟩
    | some kq => exact ⟨h.1, h.2.step a⟩
  | ex a0 b0 c0 =>
    obtain ⟨c, vfs, ds, e1, e2, e3, e4, e5, e6⟩ := h
    refine ⟨c, vfs, ds, e1, e2, e3, e4, e5.imp id fun ⟨dx, y1, y2⟩ => ⟨dx, y1, a.ss _ _ y2⟩, e6.mono (a.ss)⟩
  | sh => exact ⟨h.1.mono a.ss, h.2⟩
  | ow =>
    obtain ⟨p, vs, ds, e1, e2, e3, e4, e5, e6⟩ := h
    exact ⟨p, vs, ds, e1, e2, e3, a.out e4 e5, a.hh _ _ e5, e6.mono a.ss⟩
  | ow2 =>
    obtain ⟨p, ps, dss, e1, e2, e3, e4, e5, e6, e7⟩ := h
    refine ⟨p, ps, dss, e1, e2, e3, a.out e4 e5, a.hh _ _ e5, e6, fun j q ds x y => ?_⟩
    obtain ⟨z1, vs, z2, z3⟩ := e7 j q ds x y
    exact ⟨a.out z1 z2, vs, a.hh _ _ z2, z3.mono a.ss⟩
  | dk =>
    obtain ⟨p, vs, ds, e1, e2, e3, e4, e5, e6⟩ := h
    exact ⟨p, vs, ds, e1, e2, e3, a.out e4 e5, a.hh _ _ e5, e6.mono a.ss⟩
  | dt =>
    obtain ⟨p, vs, ds, e1, e2, e3, e4, e5, e6⟩ := h
    exact ⟨p, vs, ds, e1, e2, e3, a.out e4 e5, a.hh _ _ e5, e6.mono a.ss⟩
  | ob p =>
    obtain ⟨dx, C, c, fs, ds, e1, e2, e3, e4, e5, e6, e7, e8, e9⟩ := h
    exact ⟨dx, C, c, fs, ds, e1, e2, e3, a.out e4 e7, a.out e5 e8, e6, a.hh _ _ e7, a.hh _ _ e8, e9.mono a.ss⟩
/-- its addresses are tracked, and out of the view -/
theorem OwnAt.out (h : OwnAt K mg S H fp v d md) {a : Addr} (ha : a ∈ fp) : S a = none ∧ ∃ o, H a = some o := by
  cases md with
  | owq q0 =>
    obtain ⟨e0, p, vs, ds, e1, e2, e3, e4, e5, e6⟩ := h
    rw [e3] at ha
    have : a = p := by simpa using ha
    subst this
    exact ⟨e4, _, e5⟩
  | tr n b at_ =>
    cases b with
    | none => exact h.2.out ha
    | some kq => exact h.2.out ha
  | ex a0 b0 c0 =>
    obtain ⟨c, vfs, ds, e1, e2, e3, e4, e5, e6⟩ := h
    rw [e3] at ha; cases ha
  | sh => rw [h.2] at ha; cases ha
  | ow =>
    obtain ⟨p, vs, ds, e1, e2, e3, e4, e5, e6⟩ := h
    rw [e3] at ha
    have : a = p := by simpa using ha
    subst this
    exact ⟨e4, _, e5⟩
  | ow2 =>
    obtain ⟨p, ps, dss, e1, e2, e3, e4, e5, e6, e7⟩ := h
    rw [e3] at ha
    rcases List.mem_cons.mp ha with z | z
    · subst z; exact ⟨e4, _, e5⟩
    · obtain ⟨j, hj⟩ := List.mem_iff_getElem?.mp z
      have hl : j < dss.length := by rw [← e6]; exact (List.getElem?_eq_some_iff.mp hj).1
      obtain ⟨z1, vs, z2, _⟩ := e7 j a _ hj (List.getElem?_eq_getElem hl)
      exact ⟨z1, _, z2⟩
  | dk =>
    obtain ⟨p, vs, ds, e1, e2, e3, e4, e5, e6⟩ := h
    rw [e3] at ha
    have : a = p := by simpa using ha
    subst this
    exact ⟨e4, _, e5⟩
  | dt =>
    obtain ⟨p, vs, ds, e1, e2, e3, e4, e5, e6⟩ := h
    rw [e3] at ha
    have : a = p := by simpa using ha
    subst this
    exact ⟨e4, _, e5⟩
  | ob p =>
    obtain ⟨dx, C, c, fs, ds, e1, e2, e3, e4, e5, e6, e7, e8, e9⟩ := h
    rw [e3] at ha
    have : a = p ∨ a = dx := by simpa using ha
    rcases this with rfl | rfl
    · exact ⟨e4, _, e7⟩
    · exact ⟨e5, _, e8⟩
/-- another object is written -/
theorem OwnAt.other {p : Addr} {o : HO} (hp : S p = none) (hf : p ∉ fp) (h : OwnAt K mg S H fp v d md) : OwnAt K mg S (upd H p o) fp v d md := by
  cases md with
  | owq q0 =>
    obtain ⟨e0, q, vs, ds, e1, e2, e3, e4, e5, e6⟩ := h
    refine ⟨e0, q, vs, ds, e1, e2, e3, e4, ?_, e6⟩
    rw [upd_ne (fun z => hf (by rw [e3, z]; exact List.mem_cons_self))]
    exact e5
  | tr n b at_ =>
    cases b with
    | none => exact ⟨h.1, h.2.other hp hf⟩
    | some kq => exact ⟨h.1, h.2.other hp hf⟩
  | ex a0 b0 c0 => exact h
  | sh => exact h
  | ow =>
    obtain ⟨q, vs, ds, e1, e2, e3, e4, e5, e6⟩ := h
    refine ⟨q, vs, ds, e1, e2, e3, e4, ?_, e6⟩
    rw [upd_ne (fun z => hf (by rw [e3, z]; exact List.mem_cons_self))]
    exact e5
  | ow2 =>
    obtain ⟨q, ps, dss, e1, e2, e3, e4, e5, e6, e7⟩ := h
    refine ⟨q, ps, dss, e1, e2, e3, e4, ?_, e6, fun j r ds x y => ?_⟩
    · rw [upd_ne (fun z => hf (by rw [e3, z]; exact List.mem_cons_self))]
      exact e5
    · obtain ⟨z1, vs, z2, z3⟩ := e7 j r ds x y
      refine ⟨z1, vs, ?_, z3⟩
      rw [upd_ne (fun z => hf (by rw [e3, ← z]; exact List.mem_cons_of_mem _ (List.mem_of_getElem? x)))]
      exact z2
  | dk =>
    obtain ⟨q, vs, ds, e1, e2, e3, e4, e5, e6⟩ := h
    refine ⟨q, vs, ds, e1, e2, e3, e4, ?_, e6⟩
    rw [upd_ne (fun z => hf (by rw [e3, z]; exact List.mem_cons_self))]
    exact e5
  | dt =>
    obtain ⟨q, vs, ds, e1, e2, e3, e4, e5, e6⟩ := h
    refine ⟨q, vs, ds, e1, e2, e3, e4, ?_, e6⟩
    rw [upd_ne (fun z => hf (by rw [e3, z]; exact List.mem_cons_self))]
    exact e5
  | ob q =>
    obtain ⟨dx, C, c, fs, ds, e1, e2, e3, e4, e5, e6, e7, e8, e9⟩ := h
    refine ⟨dx, C, c, fs, ds, e1, e2, e3, e4, e5, e6, ?_, ?_, e9⟩
    · rw [upd_ne (fun z => hf (by rw [e3, z]; exact List.mem_cons_self))]
      exact e7
    · rw [upd_ne (fun z => hf (by rw [e3, z]; exact List.mem_cons_of_mem _ List.mem_cons_self))]
      exact e8
end
/-- the data of the slots; none: nothing is known of the slot -/
abbrev Env := List (Option D)
abbrev Mds := List Md
def mdAt (m : Mds) (i : Nat) : Md := m.getD i .sh
/-- the slots σ hold the data ρ, each by its mode, standing at F -/
structure EnvF (K : PySem.W.Frag) (mg : Str → Option Value) (m : Mds) (F : Nat → List Addr) (S H : Hp) (σ : St) (ρ : Env) : Prop where
  len : ρ.length = σ.length
  at_ : ∀ i d, ρ[i]? = some (some d) → ∃ v, σ[i]? = some (some v) ∧ OwnAt K mg S H (F i) v d (mdAt m i)
  nd : ∀ i d, ρ[i]? = some (some d) → (F i).Nodup
  apart : ∀ i j d e, i ≠ j → ρ[i]? = some (some d) → ρ[j]? = some (some e) → ∀ a, a ∈ F i → a ∉ F j
def EnvM (K : PySem.W.Frag) (mg : Str → Option Value) (m : Mds) (S H : Hp) (σ : St) (ρ : Env) : Prop := Same S H ∧ ∃ F, EnvF K mg m F S H σ ρ
section
variable {K : PySem.W.Frag} {mg : Str → Option Value} {m : Mds} {F : Nat → List Addr} {S S' H H' : Hp} {σ : St} {ρ : Env}
theorem EnvF.step (a : Step S H S' H') (h : EnvF K mg m F S H σ ρ) : EnvF K mg m F S' H' σ ρ :=
  ⟨h.len, fun i d e => by
    obtain ⟨v, e1, e2⟩ := h.at_ i d e
    exact ⟨v, e1, e2.step a⟩, h.nd, h.apart⟩
theorem EnvM.step (a : Step S H S' H') (h : EnvM K mg m S H σ ρ) : EnvM K mg m S' H' σ ρ := by
  obtain ⟨_, F, h⟩ := h
  exact ⟨a.sub, F, h.step a⟩
end
end Da
namespace Da
open PySem PySem.Spec L2
section
variable {K : PySem.W.Frag} {mg : Str → Option Value} {E : XK} {S S' H H' : Hp}
/-- an own exception: its class, its own dict -/
def ExcAt (K : PySem.W.Frag) (mg : Str → Option Value) (S H : Hp) (cls : Value) (dd : Option Addr) (c : Str) (fs : List (Str × D)) : Prop :=
  mg c = some cls ∧ ((fs = [] ∧ dd = none) ∨ ∃ a vfs, dd = some a ∧ S a = some (.xd vfs) ∧ vfs.map (·.1) = fs.map (·.1) ∧ RepL K mg S (vfs.map (·.2)) (fs.map (·.2)))
/-- what is wanted of a run's end -/
def PostW {α : Type} (K : PySem.W.Frag) (mg : Str → Option Value) (E : XK) (S H : Hp) (r : Res α) (k : α → Hp → Hp → Prop) : Prop := match r with
  | .ok a => ∀ S' H', Step S H S' H' → k a S' H'
  | .ex c fs => ∀ S' H' cls dd, Step S H S' H' → ExcAt K mg S' H' cls dd c fs → E cls dd H'
  | .er => False
/-- .. of a value's -/
def Post (K : PySem.W.Frag) (mg : Str → Option Value) (E : XK) (S H : Hp) (md : Md) (r : Res D) (Q : VK) : Prop := match r with
  | .ok d => ∀ v S' H' fp, Step S H S' H' → OwnAt K mg S' H' fp v d md → fp.Nodup → (∀ a ∈ fp, H a = none) → Q v H'
  | .ex c fs => ∀ S' H' cls dd, Step S H S' H' → ExcAt K mg S' H' cls dd c fs → E cls dd H'
  | .er => False
theorem PostW.step {α : Type} {r : Res α} {k : α → Hp → Hp → Prop} (st : Step S H S' H') (h : PostW K mg E S H r k) : PostW K mg E S' H' r k := by
  cases r with
  | ok a => exact fun S2 H2 s2 => h S2 H2 (st.trans s2)
  | ex c fs => exact fun S2 H2 cls dd s2 => h S2 H2 cls dd (st.trans s2)
  | er => exact h
theorem Post.step {md : Md} {r : Res D} {Q : VK} (st : Step S H S' H') (h : Post K mg E S H md r Q) : Post K mg E S' H' md r Q := by
  cases r with
  | ok a => exact fun v S2 H2 fp s2 o n f => h v S2 H2 fp (st.trans s2) o n fun a ha => st.hh.free (f a ha)
  | ex c fs => exact fun S2 H2 cls dd s2 => h S2 H2 cls dd (st.trans s2)
  | er => exact h
theorem Post.bind {α : Type} {md : Md} {r : Res α} {f : α → Res D} {Q : VK} (h : Post K mg E S H md (r.bind f) Q) : PostW K mg E S H r fun a S1 H1 => Post K mg E S1 H1 md (f a) Q := by
  cases r with
  | ok a => exact fun S2 H2 s2 => Post.step s2 h
  | ex c fs => exact h
  | er => exact h
theorem PostW.bind {α β : Type} {r : Res α} {f : α → Res β} {k : β → Hp → Hp → Prop} (h : PostW K mg E S H (r.bind f) k) : PostW K mg E S H r fun a S1 H1 => PostW K mg E S1 H1 (f a) k := by
  cases r with
  | ok a => exact fun S2 H2 s2 => PostW.step s2 h
  | ex c fs => exact h
  | er => exact h
theorem PostW.imp {α : Type} {r : Res α} {k k' : α → Hp → Hp → Prop} (h : PostW K mg E S H r k) (g : ∀ a S' H', Step S H S' H' → k a S' H' → k' a S' H') : PostW K mg E S H r k' := by
  cases r with
  | ok a => exact fun S2 H2 s2 => g a S2 H2 s2 (h S2 H2 s2)
  | ex c fs => exact h
  | er => exact h
/-- a shared value is handed on -/
theorem PostW.post {r : Res D} {k : D → Hp → Hp → Prop} {Q : VK} (h : PostW K mg E S H r k) (g : ∀ d v S' H', Step S H S' H' → Rep K mg S' v d → k d S' H' → Q v H') : Post K mg E S H .sh r Q := by
  cases r with
  | ok a => exact fun v S2 H2 fp s2 o n f => g a v S2 H2 s2 o.1 (h S2 H2 s2)
  | ex c fs => exact h
  | er => exact h
theorem PostW.postM {md : Md} {r : Res D} {k : D → Hp → Hp → Prop} {Q : VK} (h : PostW K mg E S H r k) (g : ∀ d v S' H' fp, Step S H S' H' → OwnAt K mg S' H' fp v d md → fp.Nodup → (∀ a ∈ fp, H a = none) → k d S' H' → Q v H') : Post K mg E S H md r Q := by
  cases r with
  | ok a => exact fun v S2 H2 fp s2 o n f => g a v S2 H2 fp s2 o n f (h S2 H2 s2)
  | ex c fs => exact h
  | er => exact h
/-- a shared value that stands already -/
theorem Post.val {d : D} {v : V} {Q : VK} (h : Post K mg E S H .sh (.ok d) Q) (hs : Same S H) (r : Rep K mg S v d) : Q v H := h v S H [] (Step.refl hs) ⟨r, rfl⟩ List.nodup_nil (fun a z => nomatch z)
/-- a new list, a new tuple -/
theorem Post.lst {ds : List D} {vs : List V} {p : Addr} {Q : VK} (h : Post K mg E S H .sh (.ok (.lst ds)) Q) (hs : Same S H) (r : RepL K mg S vs ds) (hp : H p = none) : Q (.ref p) (upd H p (.lst vs)) :=
  h _ _ _ [] (Step.laid hs hp) ⟨Rep.lstL upd_same (r.mono (Step.laid hs hp).ss), rfl⟩ List.nodup_nil (fun a z => nomatch z)
theorem Post.tup {ds : List D} {vs : List V} {p : Addr} {Q : VK} (h : Post K mg E S H .sh (.ok (.tup ds)) Q) (hs : Same S H) (r : RepL K mg S vs ds) (hp : H p = none) : Q (.ref p) (upd H p (.tup vs)) :=
  h _ _ _ [] (Step.laid hs hp) ⟨Rep.tupL upd_same (r.mono (Step.laid hs hp).ss), rfl⟩ List.nodup_nil (fun a z => nomatch z)
/-- a new list that is one's own -/
theorem Post.own {ds : List D} {vs : List V} {p : Addr} {Q : VK} (h : Post K mg E S H .ow (.ok (.lst ds)) Q) (hs : Same S H) (r : RepL K mg S vs ds) (hp : H p = none) : Q (.ref p) (upd H p (.lst vs)) :=
  h _ S _ [p] (Step.hid hs hp) ⟨p, vs, ds, rfl, rfl, rfl, hs.free hp, upd_same, r⟩ (by simp) (fun a z => by
    have : a = p := by simpa using z
    rw [this]; exact hp)
/-- a list, kept or shared -/
theorem Post.list {md : Md} (hmd : md = .sh ∨ md = .ow) {ds : List D} {vs : List V} {p : Addr} {Q : VK} (h : Post K mg E S H md (.ok (.lst ds)) Q) (hs : Same S H) (r : RepL K mg S vs ds) (hp : H p = none) : Q (.ref p) (upd H p (.lst vs)) := by
  rcases hmd with rfl | rfl
  · exact h.lst hs r hp
  · exact h.own hs r hp
end
def tE (K : PySem.W.Frag) (mg : Str → Option Value) (E : WX) (m : Mds) (md : Md) (f : Env → Res D) : TE := fun σ H Q => ∃ S ρ, EnvM K mg m S H σ ρ ∧ Post K mg (WE E σ) S H md (f ρ) Q
def tT (K : PySem.W.Frag) (mg : Str → Option Value) (E : WX) (m : Mds) (f : Env → Res Bool) : TT := fun σ H Q => ∃ S ρ, EnvM K mg m S H σ ρ ∧ PostW K mg (WE E σ) S H (f ρ) fun b _ H' => Q b H'
def tA (K : PySem.W.Frag) (mg : Str → Option Value) (E : WX) (m : Mds) (f : Env → Res (List D)) : TA := fun σ H Q => ∃ S ρ, EnvM K mg m S H σ ρ ∧ PostW K mg (WE E σ) S H (f ρ) fun ds S' H' => ∀ vs, RepL K mg S' vs ds → Q vs H'
structure JE (X : Cx) (E : WX) (m : Mds) (md : Md) (e : Expr) (f : Env → Res D) : Prop where
  pe : PE X e (tE X.K X.mg E m md f)
structure JT (X : Cx) (E : WX) (m : Mds) (e : Expr) (f : Env → Res Bool) : Prop where
  pt : PT X e (tT X.K X.mg E m f)
structure JW (X : Cx) (E : WX) (m : Mds) (e : Expr) (f : Env → Res Bool) : Prop where
  pw : PW X e (tT X.K X.mg E m f)
structure JA (X : Cx) (E : WX) (m : Mds) (es : List Expr) (f : Env → Res (List D)) : Prop where
  pa : PA X es (tA X.K X.mg E m f)
section
variable {X : Cx} {e : Expr} {es : List Expr}
theorem PEimp {t t' : TE} (h : PE X e t) (g : ∀ σ H Q, t' σ H Q → t σ H Q) : PE X e t' := ⟨fun pins s σ H Q I q => h.run pins s σ H Q I (g σ H Q q)⟩
theorem PTimp {t t' : TT} (h : PT X e t) (g : ∀ σ H Q, t' σ H Q → t σ H Q) : PT X e t' := ⟨fun pins s σ H Q I q => h.run pins s σ H Q I (g σ H Q q)⟩
theorem PWimp {t t' : TT} (h : PW X e t) (g : ∀ σ H Q, t' σ H Q → t σ H Q) : PW X e t' := ⟨fun wh pins s σ H Q I q => h.run wh pins s σ H Q I (g σ H Q q)⟩
theorem PAimp {t t' : TA} (h : PA X es t) (g : ∀ σ H Q, t' σ H Q → t σ H Q) : PA X es t' := ⟨fun pos pins s σ H Q I q => h.run pos pins s σ H Q I (g σ H Q q)⟩
end
def fC (d : D) : Env → Res D := fun _ => .ok d
def fV (i : Nat) : Env → Res D := fun ρ => match ρ[i]? with
  | some (some d) => .ok d
  | _ => .er
def f1 (g : D → Res D) (fa : Env → Res D) : Env → Res D := fun ρ => (fa ρ).bind g
def f2 (g : D → D → Res D) (fa fb : Env → Res D) : Env → Res D := fun ρ => (fa ρ).bind fun x => (fb ρ).bind fun y => g x y
def fA0 : Env → Res (List D) := fun _ => .ok []
def fA (fa : Env → Res D) (fr : Env → Res (List D)) : Env → Res (List D) := fun ρ => (fa ρ).bind fun x => (fr ρ).bind fun xs => .ok (x :: xs)
def fOn (g : List D → Res D) (fa : Env → Res (List D)) : Env → Res D := fun ρ => (fa ρ).bind g
def asB : D → Res Bool
  | .bl b => .ok b
  | _ => .er
/-- an operation on values does what g says -/
def OpD (K : PySem.W.Frag) (mg : Str → Option Value) (md : Md) (r : R2) (g : D → D → Res D) : Prop :=
  ∀ (E : XK) (S H : Hp) (x y : V) (dx dy : D) (Q : VK), Same S H → Rep K mg S x dx → Rep K mg S y dy → Post K mg E S H md (g dx dy) Q → r x y H Q
def UnD (K : PySem.W.Frag) (mg : Str → Option Value) (md : Md) (r : V → Hp → VK → Prop) (g : D → Res D) : Prop :=
  ∀ (E : XK) (S H : Hp) (x : V) (dx : D) (Q : VK), Same S H → Rep K mg S x dx → Post K mg E S H md (g dx) Q → r x H Q
def CallD (K : PySem.W.Frag) (mg : Str → Option Value) (md : Md) (r : List V → Hp → VK → Prop) (g : List D → Res D) : Prop :=
  ∀ (E : XK) (S H : Hp) (xs : List V) (ds : List D) (Q : VK), Same S H → RepL K mg S xs ds → Post K mg E S H md (g ds) Q → r xs H Q
section
variable {X : Cx} {E : WX} {m : Mds} {md : Md} {a b : Expr} {es : List Expr} {fa fb : Env → Res D} {pos : Pos}
theorem two {t : R2} {g : D → D → Res D} {K : PySem.W.Frag} {mg : Str → Option Value} (hr : OpD K mg md t g) {σ : L2.St} {H : Hp} {Q : VK} (h : tE K mg E m md (f2 g fa fb) σ H Q) : tOp t (tE K mg E m .sh fa) (tE K mg E m .sh fb) σ H Q := by
  obtain ⟨S, ρ, hm, hp⟩ := h
  refine ⟨S, ρ, hm, (Post.bind hp).post fun dx v S1 H1 s1 r1 h1 => ?_⟩
  exact ⟨S1, ρ, hm.step s1, (Post.bind h1).post fun dy w S2 H2 s2 r2 h2 => hr _ S2 H2 v w dx dy Q s2.sub (r1.mono s2.ss) r2 h2⟩
theorem one {t : V → Hp → VK → Prop} {g : D → Res D} {K : PySem.W.Frag} {mg : Str → Option Value} (hr : UnD K mg md t g) {σ : L2.St} {H : Hp} {Q : VK} (h : tE K mg E m md (f1 g fa) σ H Q) : tUn t (tE K mg E m .sh fa) σ H Q := by
  obtain ⟨S, ρ, hm, hp⟩ := h
  exact ⟨S, ρ, hm, (Post.bind hp).post fun dx v S1 H1 s1 r1 h1 => hr _ S1 H1 v dx Q s1.sub r1 h1⟩
theorem je_op {op : Operator} {r : R2} {g : D → D → Res D} (ho : OpR X (binaryOp op) r) (hr : OpD X.K X.mg md r g) (ha : JE X E m .sh a fa) (hb : JE X E m .sh b fb) : JE X E m md (.BinOp a op b pos) (f2 g fa fb) :=
  ⟨PEimp (pe_op ho ha.pe hb.pe) fun σ H Q h => two hr h⟩
theorem je_un {op : UnaryOp} {r : V → Hp → VK → Prop} {g : D → Res D} (ho : UnR X (unaryOp op) r) (hr : UnD X.K X.mg md r g) (ha : JE X E m .sh a fa) : JE X E m md (.UnaryOp op a pos) (f1 g fa) :=
  ⟨PEimp (pe_un ho ha.pe) fun σ H Q h => one hr h⟩
theorem je_cmp {op : CmpOp} {r : R2} {g : D → D → Res D} (ho : OpR X (compareOp op) r) (hr : OpD X.K X.mg .sh r g) (ha : JE X E m .sh a fa) (hb : JE X E m .sh b fb) (hm : behindInMarks op b = false := by rfl) : JE X E m .sh (.Compare a [op] [b] pos) (f2 g fa fb) :=
  ⟨PEimp (pe_cmpR ho ha.pe hb.pe hm) fun σ H Q h => two hr h⟩
theorem je_ix {r : R2} {g : D → D → Res D} (ho : IxR X r) (hr : OpD X.K X.mg .sh r g) (ha : JE X E m .sh a fa) (hb : JE X E m .sh b fb) (hs : PlainIx b := by intro _ _; rfl) : JE X E m .sh (.Subscript a b pos) (f2 g fa fb) :=
  ⟨PEimp (pe_ix ho ha.pe hb.pe hs) fun σ H Q h => two hr h⟩
/-- a value that is a bool, as a test -/
def fB (f : Env → Res D) : Env → Res Bool := fun ρ => (f ρ).bind asB
theorem jt_cmp {op : CmpOp} {r : R2} {g : D → D → Res D} (ho : OpR X (compareOp op) r) (hr : OpD X.K X.mg .sh r g) (ha : JE X E m .sh a fa) (hb : JE X E m .sh b fb) (hm : behindInMarks op b = false := by rfl) : JT X E m (.Compare a [op] [b] pos) (fB (f2 g fa fb)) := by
  refine ⟨PTimp (pt_cmpR ho ha.pe hb.pe hm) fun σ H Q h => ?_⟩
  obtain ⟨S, ρ, hm, hp⟩ := h
  have k : tE X.K X.mg E m .sh (f2 g fa fb) σ H fun x H' => ∃ k, x = .bl k ∧ Q k H' := by
    refine ⟨S, ρ, hm, (PostW.bind hp).post fun d v S1 H1 s1 r1 h1 => ?_⟩
    cases d with
    | bl c =>
      cases r1
      exact ⟨c, rfl, h1 S1 H1 (Step.refl s1.sub)⟩
    | _ => exact h1.elim
  exact two hr k
theorem je_int {i : Int} {j} : JE X E m .sh (.Constant (.int i) j pos) (fC (.int i)) := ⟨PEimp pe_int fun σ H Q h => by obtain ⟨S, ρ, hm, hp⟩ := h; exact Post.val hp hm.1 (.int i)⟩
theorem je_bl {i : Bool} {j} : JE X E m .sh (.Constant (.bool i) j pos) (fC (.bl i)) := ⟨PEimp pe_bl fun σ H Q h => by obtain ⟨S, ρ, hm, hp⟩ := h; exact Post.val hp hm.1 (.bl i)⟩
theorem je_non {j} : JE X E m .sh (.Constant .none j pos) (fC .non) := ⟨PEimp pe_non fun σ H Q h => by obtain ⟨S, ρ, hm, hp⟩ := h; exact Post.val hp hm.1 .non⟩
/-- a name whose data are shared -/
theorem je_var (i : Nat) {x : Str} (hmd : mdAt m i = .sh := by rfl) (hN : X.N[i]? = some x := by rfl) (hv : Vis X.env.scope x := by first | exact Or.inl rfl | exact Or.inr (Or.inl rfl) | exact Or.inr (Or.inr rfl)) (hd : (x == ("__debug__" : Str)) = false := by decide)
    (hcd : (x == ("__classdict__" : Str)) = false := by decide) : JE X E m .sh (.Name x pos) (fV i) := by
  refine ⟨PEimp (pe_var hN hv hd hcd) fun σ H Q h => ?_⟩
  obtain ⟨S, ρ, ⟨hs, F, hm⟩, hp⟩ := h
  unfold fV at hp
  split at hp
  · rename_i d e
    obtain ⟨v, e1, e2⟩ := hm.at_ i d e
    rw [hmd] at e2
    exact ⟨v, e1, hp.val hs e2.1⟩
  · exact hp.elim
theorem ja_nil : JA X E m [] fA0 := ⟨PAimp pa_nil fun σ H Q h => by obtain ⟨S, ρ, hm, hp⟩ := h; exact hp S H (Step.refl hm.1) [] .nil⟩
theorem ja_cons {fr : Env → Res (List D)} (ha : JE X E m .sh a fa) (hr : JA X E m es fr) (hs : starEach (a :: es) X.env = (false, eval a X.env) :: starEach es X.env := by rfl) : JA X E m (a :: es) (fA fa fr) := by
  refine ⟨PAimp (pa_cons ha.pe hr.pa hs) fun σ H Q h => ?_⟩
  obtain ⟨S, ρ, hm, hp⟩ := h
  refine ⟨S, ρ, hm, (PostW.bind hp).post fun d v S1 H1 s1 r1 h1 => ?_⟩
  refine ⟨S1, ρ, hm.step s1, (PostW.bind h1).imp fun ds S2 H2 s2 h2 vs rs => ?_⟩
  exact h2 S2 H2 (Step.refl s2.sub) (v :: vs) (.cons (r1.mono s2.ss) rs)
def gTupD (ds : List D) : Res D := if ds.length ≤ 100000 then .ok (.tup ds) else .er
def gLstD (ds : List D) : Res D := if ds.length ≤ 100000 then .ok (.lst ds) else .er
theorem small5 {n : Nat} (h : n ≤ 100000) : n ≤ sizeLine := by rw [sizeLine_eq]; omega
theorem je_tup {fr : Env → Res (List D)} {x1} (h : JA X E m es fr) : JE X E m .sh (.Tuple es x1 pos) (fOn gTupD fr) := by
  refine ⟨PEimp (pe_tup h.pa) fun σ H Q h => ?_⟩
  obtain ⟨S, ρ, hm, hp⟩ := h
  refine ⟨S, ρ, hm, (Post.bind hp).imp fun ds S1 H1 s1 h1 vs rs => ?_⟩
  unfold gTupD at h1
  split at h1
  · rename_i hz
    exact ⟨by rw [rs.len]; exact small5 hz, fun p hp => h1.tup s1.sub rs hp⟩
  · exact h1.elim
theorem je_lst {fr : Env → Res (List D)} (h : JA X E m es fr) (hmd : md = .sh ∨ md = .ow := by first | exact .inl rfl | exact .inr rfl) : JE X E m md (.List es pos) (fOn gLstD fr) := by
  refine ⟨PEimp (pe_lst h.pa) fun σ H Q h => ?_⟩
  obtain ⟨S, ρ, hm, hp⟩ := h
  refine ⟨S, ρ, hm, (Post.bind hp).imp fun ds S1 H1 s1 h1 vs rs => ?_⟩
  unfold gLstD at h1
  split at h1
  · rename_i hz
    exact ⟨by rw [rs.len]; exact small5 hz, fun p hp => h1.list hmd s1.sub rs hp⟩
  · exact h1.elim
def fAnd (fa fb : Env → Res Bool) : Env → Res Bool := fun ρ => (fa ρ).bind fun c => if c = true then fb ρ else .ok false
def fOr (fa fb : Env → Res Bool) : Env → Res Bool := fun ρ => (fa ρ).bind fun c => if c = true then .ok true else fb ρ
def fNot (fa : Env → Res Bool) : Env → Res Bool := fun ρ => (fa ρ).bind fun c => .ok (!c)
def fIf (fc : Env → Res Bool) (fa fb : Env → Res D) : Env → Res D := fun ρ => (fc ρ).bind fun c => if c = true then fa ρ else fb ρ
variable {ga gb gc : Env → Res Bool} {c : Expr} {rest : List Expr}
theorem JW.jt (h : JW X E m a ga) : JT X E m a ga := ⟨h.pw.pt⟩
theorem jw_and1 (ha : JT X E m a ga) : JW X E m (.BoolOp .And [a] pos) ga := ⟨pw_and1 ha.pt⟩
theorem jw_or1 (ha : JT X E m a ga) : JW X E m (.BoolOp .Or [a] pos) ga := ⟨pw_or1 ha.pt⟩
theorem and_ok {K : PySem.W.Frag} {mg : Str → Option Value} {σ : L2.St} {H : Hp} {Q : Bool → Hp → Prop} (h : tT K mg E m (fAnd ga gb) σ H Q) : tAnd (tT K mg E m ga) (tT K mg E m gb) σ H Q := by
  obtain ⟨S, ρ, hm, hp⟩ := h
  refine ⟨S, ρ, hm, (PostW.bind hp).imp fun d S1 H1 s1 h1 => ?_⟩
  cases d with
  | true => exact ⟨S1, ρ, hm.step s1, h1⟩
  | false => exact h1 S1 H1 (Step.refl s1.sub)
theorem or_ok {K : PySem.W.Frag} {mg : Str → Option Value} {σ : L2.St} {H : Hp} {Q : Bool → Hp → Prop} (h : tT K mg E m (fOr ga gb) σ H Q) : tOr (tT K mg E m ga) (tT K mg E m gb) σ H Q := by
  obtain ⟨S, ρ, hm, hp⟩ := h
  refine ⟨S, ρ, hm, (PostW.bind hp).imp fun d S1 H1 s1 h1 => ?_⟩
  cases d with
  | false => exact ⟨S1, ρ, hm.step s1, h1⟩
  | true => exact h1 S1 H1 (Step.refl s1.sub)
theorem jw_and (ha : JT X E m a ga) (hb : JW X E m (.BoolOp .And (b :: rest) pos) gb) : JW X E m (.BoolOp .And (a :: b :: rest) pos) (fAnd ga gb) :=
  ⟨PWimp (pw_and ha.pt hb.pw) fun σ H Q h => and_ok h⟩
theorem jw_or (ha : JT X E m a ga) (hb : JW X E m (.BoolOp .Or (b :: rest) pos) gb) : JW X E m (.BoolOp .Or (a :: b :: rest) pos) (fOr ga gb) :=
  ⟨PWimp (pw_or ha.pt hb.pw) fun σ H Q h => or_ok h⟩
theorem jt_not (ha : JT X E m a ga) : JT X E m (.UnaryOp .Not a pos) (fNot ga) := by
  refine ⟨PTimp (pt_not ha.pt) fun σ H Q h => ?_⟩
  obtain ⟨S, ρ, hm, hp⟩ := h
  exact ⟨S, ρ, hm, (PostW.bind hp).imp fun d S1 H1 s1 h1 => h1 S1 H1 (Step.refl s1.sub)⟩
/-- as values: all are bools -/
def fBv (f : Env → Res Bool) : Env → Res D := fun ρ => (f ρ).bind fun b => .ok (.bl b)
theorem je_and (ha : JE X E m .sh a fa) (hb : JE X E m .sh (.BoolOp .And (b :: rest) pos) (fBv gb)) : JE X E m .sh (.BoolOp .And (a :: b :: rest) pos) (fBv (fAnd (fB fa) gb)) := by
  refine ⟨PEimp (pe_and ha.pe hb.pe) fun σ H Q h => ?_⟩
  obtain ⟨S, ρ, hm, hp⟩ := h
  refine ⟨S, ρ, hm, (PostW.bind (PostW.bind (Post.bind hp))).post fun d v S1 H1 s1 r1 h1 => ?_⟩
  cases d with
  | bl c =>
    cases r1
    refine ⟨c, rfl, ?_⟩
    have h1 := h1 S1 H1 (Step.refl s1.sub)
    cases c with
    | true =>
      refine ⟨S1, ρ, hm.step s1, ?_⟩
      show Post _ _ _ _ _ _ ((gb ρ).bind _) Q
      revert h1
      show PostW _ _ _ _ _ (gb ρ) _ → _
      cases gb ρ with
      | ok x => exact fun h1 => h1 S1 H1 (Step.refl s1.sub)
      | ex c fs => exact fun h1 => h1
      | er => exact fun h1 => h1
    | false =>
      have h2 := h1 S1 H1 (Step.refl s1.sub)
      exact Post.val h2 s1.sub (.bl false)
  | _ => exact h1.elim
/-- the last one -/
theorem je_last {op} (ha : JE X E m .sh a fa) : JE X E m .sh (.BoolOp op [a] pos) (fBv (fB fa)) := by
  refine ⟨PEimp (pe_one ha.pe) fun σ H Q h => ?_⟩
  obtain ⟨S, ρ, hm, hp⟩ := h
  refine ⟨S, ρ, hm, (PostW.bind (Post.bind hp)).post fun d v S1 H1 s1 r1 h1 => ?_⟩
  cases d with
  | bl c => exact Post.val (h1 S1 H1 (Step.refl s1.sub)) s1.sub r1
  | _ => exact h1.elim
theorem je_not (ha : JE X E m .sh a fa) : JE X E m .sh (.UnaryOp .Not a pos) (fBv (fNot (fB fa))) := by
  refine ⟨PEimp (pe_not ha.pe) fun σ H Q h => ?_⟩
  obtain ⟨S, ρ, hm, hp⟩ := h
  refine ⟨S, ρ, hm, (PostW.bind (PostW.bind (Post.bind hp))).post fun d v S1 H1 s1 r1 h1 => ?_⟩
  cases d with
  | bl c =>
    cases r1
    exact ⟨c, rfl, Post.val (h1 S1 H1 (Step.refl s1.sub) S1 H1 (Step.refl s1.sub)) s1.sub (.bl _)⟩
  | _ => exact h1.elim
end
end Da
namespace Da
open PySem PySem.Spec L2
def dI (c : Int → Int → Bool) (g : Int → Int → Int) : D → D → Res D
  | .int i, .int j => if c i j = true then .ok (.int (g i j)) else .er
  | _, _ => .er
def dP (p : Int → Int → Bool) : D → D → Res D
  | .int i, .int j => .ok (.bl (p i j))
  | _, _ => .er
def yes2 (_ _ : Int) : Bool := true
def mulOk (i j : Int) : Bool := stuck (i.natAbs.log2 + j.natAbs.log2 < 1000000)
theorem mulOk_yes {i j : Int} (h : i.natAbs.log2 + j.natAbs.log2 < 1000000) : mulOk i j = true := stuck_iff.mpr h
theorem mulOk_lt {i j : Int} (h : mulOk i j = true) : i.natAbs.log2 + j.natAbs.log2 < 1000000 := stuck_iff.mp h
def divOk (_ j : Int) : Bool := stuck (j ≠ 0 ∧ j.natAbs.log2 < 9000)
def modOk (_ j : Int) : Bool := decide (j ≠ 0)
def powOk (i j : Int) : Bool := stuck (0 ≤ j ∧ j ≤ 1000000 ∧ i.natAbs < 18446744073709551616)
section
variable {K : PySem.W.Frag} {mg : Str → Option Value} {E : XK} {S S' H H' : Hp}
theorem opd_I {C : Int → Int → Prop} {g : Int → Int → Int} {c : Int → Int → Bool} (hc : ∀ i j, c i j = true → C i j) : OpD K mg .sh (rI C fun i j => .int (g i j)) (dI c g) := by
  intro E S H x y dx dy Q hs rx ry h
  cases dx with
  | int i =>
    cases dy with
    | int j =>
      simp only [dI] at h
      split at h
      · rename_i hcc
        cases rx; cases ry
        exact ⟨i, j, rfl, rfl, hc i j hcc, h.val hs (.int _)⟩
      · exact h.elim
    | _ => exact h.elim
  | _ => exact h.elim
theorem opd_I0 {g : Int → Int → Int} : OpD K mg .sh (rI0 fun i j => .int (g i j)) (dI yes2 g) := by
  intro E S H x y dx dy Q hs rx ry h
  cases dx with
  | int i =>
    cases dy with
    | int j =>
      cases rx; cases ry
      exact ⟨i, j, rfl, rfl, Post.val h hs (.int _)⟩
    | _ => exact h.elim
  | _ => exact h.elim
theorem opd_P {p : Int → Int → Bool} : OpD K mg .sh (rI0 fun i j => .bl (p i j)) (dP p) := by
  intro E S H x y dx dy Q hs rx ry h
  cases dx with
  | int i =>
    cases dy with
    | int j =>
      cases rx; cases ry
      exact ⟨i, j, rfl, rfl, Post.val h hs (.bl _)⟩
    | _ => exact h.elim
  | _ => exact h.elim
end
section
variable {X : Cx}
def CDivX (_ j : Int) : Prop := j ≠ 0 ∧ j.natAbs.log2 < 9000
theorem op_fdivX : OpR X (binaryOp .FloorDiv) (rI CDivX fun i j => .int (i.fdiv j)) :=
  opI fun _ _ _ _ _ _ _ hc q => PyProof.Rows.floordiv_int hc.1 q (.inl (PyProof.noPylong_of_log2 hc.2))
end
section
variable {X : Cx} {E : WX} {m : Mds} {md : Md} {a b : Expr} {es : List Expr} {fa fb : Env → Res D} {pos : Pos}
def dSub := dI yes2 (fun i j => i - j)
def dMul := dI mulOk (fun i j => i * j)
def dDiv := dI divOk (fun i j => i.fdiv j)
def dMod := dI modOk (fun i j => i.fmod j)
def dPow := dI powOk (fun i j => i ^ j.toNat)
def dLt := dP (fun i j => decide (i < j))
def dLe := dP (fun i j => decide (i ≤ j))
def dGt := dP (fun i j => decide (j < i))
def dGe := dP (fun i j => decide (j ≤ i))
theorem je_sub (ha : JE X E m .sh a fa) (hb : JE X E m .sh b fb) : JE X E m .sh (.BinOp a .Sub b pos) (f2 dSub fa fb) := je_op op_sub opd_I0 ha hb
theorem je_mulI (ha : JE X E m .sh a fa) (hb : JE X E m .sh b fb) : JE X E m .sh (.BinOp a .Mult b pos) (f2 dMul fa fb) := je_op op_mulW (opd_I fun i j h => mulOk_lt h) ha hb
theorem je_div (ha : JE X E m .sh a fa) (hb : JE X E m .sh b fb) : JE X E m .sh (.BinOp a .FloorDiv b pos) (f2 dDiv fa fb) := je_op op_fdivX (opd_I fun i j h => stuck_iff.mp h) ha hb
theorem je_mod (ha : JE X E m .sh a fa) (hb : JE X E m .sh b fb) : JE X E m .sh (.BinOp a .Mod b pos) (f2 dMod fa fb) := je_op op_modN (opd_I fun i j h => of_decide_eq_true h) ha hb
theorem powOk_ok {i j : Int} (h : powOk i j = true) : CPow i j := by
  obtain ⟨h1, h2, h3⟩ := stuck_iff.mp h
  exact ⟨h1, h2, by
    show i.natAbs < 2 ^ 64
    omega⟩
theorem je_pow (ha : JE X E m .sh a fa) (hb : JE X E m .sh b fb) : JE X E m .sh (.BinOp a .Pow b pos) (f2 dPow fa fb) := je_op op_pow (opd_I fun i j h => powOk_ok h) ha hb
def dNeg : D → Res D
  | .int i => .ok (.int (-i))
  | _ => .er
theorem je_neg (ha : JE X E m .sh a fa) : JE X E m .sh (.UnaryOp .USub a pos) (f1 dNeg fa) := je_un un_neg (fun E S H x dx Q hs rx h => by
  cases dx with
  | int i =>
    cases rx
    exact ⟨i, rfl, Post.val h hs (.int _)⟩
  | _ => exact h.elim) ha
theorem jt_lt (ha : JE X E m .sh a fa) (hb : JE X E m .sh b fb) : JT X E m (.Compare a [.Lt] [b] pos) (fB (f2 dLt fa fb)) := jt_cmp op_lt opd_P ha hb (nomark _)
theorem jt_gt (ha : JE X E m .sh a fa) (hb : JE X E m .sh b fb) : JT X E m (.Compare a [.Gt] [b] pos) (fB (f2 dGt fa fb)) := jt_cmp op_gt opd_P ha hb (nomark _)
theorem jt_ge (ha : JE X E m .sh a fa) (hb : JE X E m .sh b fb) : JT X E m (.Compare a [.GtE] [b] pos) (fB (f2 dGe fa fb)) := jt_cmp op_ge opd_P ha hb (nomark _)
end
def szOk (n : Nat) : Bool := stuck (n ≤ 1000000)
theorem szOk_yes {n : Nat} (h : n ≤ 1000000) : szOk n = true := stuck_iff.mpr h
theorem szOk_le {n : Nat} (h : szOk n = true) : n ≤ 1000000 := stuck_iff.mp h
theorem szOk_ok {n : Nat} (h : szOk n = true) : n ≤ sizeLine := by
  have := szOk_le h
  rw [sizeLine_eq]; omega
def dAdd : D → D → Res D
  | .int i, .int j => .ok (.int (i + j))
  | .lst a, .lst b => if szOk (a.length + b.length) = true then .ok (.lst (a ++ b)) else .er
  | .tup a, .tup b => if szOk (a.length + b.length) = true then .ok (.tup (a ++ b)) else .er
  | .str a, .str b => if szOk (a.length + b.length) = true then .ok (.str (a ++ b)) else .er
  | _, _ => .er
def dAddL : D → D → Res D
  | .lst a, .lst b => if szOk (a.length + b.length) = true then .ok (.lst (a ++ b)) else .er
  | _, _ => .er
abbrev rStrAdd : R2 := fun x y H Q => ∃ i j, x = .str i ∧ y = .str j ∧ i.length + j.length ≤ sizeLine ∧ Q (.str (i ++ j)) H
def rAddAll (K : PySem.W.Frag) : R2 := fun x y H Q => ((rI0 fun i j => .int (i + j)) x y H Q ∨ rCat x y H Q) ∨ (rCatA K x y H Q ∨ rStrAdd x y H Q)
section
variable {K : PySem.W.Frag} {mg : Str → Option Value} {X : Cx} {E : WX} {m : Mds} {md : Md} {a b : Expr} {es : List Expr} {fa fb : Env → Res D} {pos : Pos}
theorem op_addAll : OpR X (binaryOp .Add) (rAddAll X.K) := OpR.or (OpR.or op_add op_cat) (OpR.or op_catA op_add_str)
theorem Post.of_if {md : Md} {E : XK} {S H : Hp} {r : Res D} {c : Bool} {Q : VK} (h : Post K mg E S H md (if c = true then r else .er) Q) : c = true ∧ Post K mg E S H md r Q := by
  split at h
  · rename_i hc; exact ⟨hc, h⟩
  · exact h.elim
theorem RepL.nil_iff {S : Hp} {vs : List V} {ds : List D} (r : RepL K mg S vs ds) : vs = [] ↔ ds = [] := by
  have := r.len
  constructor
  · intro h; subst h; exact List.eq_nil_of_length_eq_zero this.symm
  · intro h; subst h; exact List.eq_nil_of_length_eq_zero this
theorem catL {E : XK} {S H : Hp} {x y : V} {da db : List D} {Q : VK} (hmd : md = .sh ∨ md = .ow) (hs : Same S H) (rx : Rep K mg S x (.lst da)) (ry : Rep K mg S y (.lst db)) (h : Post K mg E S H md (if szOk (da.length + db.length) = true then .ok (.lst (da ++ db)) else .er) Q) : rCat x y H Q := by
  obtain ⟨hz, h⟩ := h.of_if
  obtain ⟨a, vs, rfl, ha, ra⟩ := rx.of_lst
  obtain ⟨b, ws, rfl, hb, rb⟩ := ry.of_lst
  exact ⟨a, b, vs, ws, rfl, rfl, hs _ _ ha, hs _ _ hb, by rw [ra.len, rb.len]; exact szOk_ok hz, fun p hp => h.list hmd hs (ra.append rb) hp⟩
theorem opd_add : OpD K mg .sh (rAddAll K) dAdd := by
  intro E S H x y dx dy Q hs rx ry h
  cases dx with
  | int i =>
    cases dy with
    | int j =>
      cases rx; cases ry
      exact .inl (.inl ⟨i, j, rfl, rfl, Post.val h hs (.int _)⟩)
    | _ => exact h.elim
  | str i =>
    cases dy with
    | str j =>
      obtain ⟨hz, h⟩ := Post.of_if h
      cases rx; cases ry
      exact .inr (.inr ⟨i, j, rfl, rfl, szOk_ok hz, Post.val h hs (.str _)⟩)
    | _ => exact h.elim
  | lst da =>
    cases dy with
    | lst db => exact .inl (.inr (catL (.inl rfl) hs rx ry h))
    | _ => exact h.elim
  | tup da =>
    cases dy with
    | tup db =>
      obtain ⟨hz, h⟩ := Post.of_if h
      obtain ⟨a, vs, rfl, ha, ra⟩ := rx.of_tup
      obtain ⟨b, ws, rfl, hb, rb⟩ := ry.of_tup
      refine .inr (.inl ⟨a, b, vs, ws, rfl, rfl, same_t hs ha, same_t hs hb, by rw [ra.len, rb.len]; exact szOk_ok hz, fun e => ?_, fun e1 e2 => ?_, fun _ _ p hp => h.tup hs (ra.append rb) hp⟩)
      · have e' := ra.nil_iff.mp e
        subst e'
        exact h.val hs ry
      · have e' := rb.nil_iff.mp e2
        subst e'
        rw [List.append_nil] at h
        exact h.val hs rx
    | _ => exact h.elim
  | _ => exact h.elim
theorem opd_addL : OpD K mg .ow (rAddAll K) dAddL := by
  intro E S H x y dx dy Q hs rx ry h
  cases dx with
  | lst da =>
    cases dy with
    | lst db => exact .inl (.inr (catL (.inr rfl) hs rx ry h))
    | _ => exact h.elim
  | _ => exact h.elim
theorem je_add (ha : JE X E m .sh a fa) (hb : JE X E m .sh b fb) : JE X E m .sh (.BinOp a .Add b pos) (f2 dAdd fa fb) := je_op op_addAll opd_add ha hb
theorem je_addL (ha : JE X E m .sh a fa) (hb : JE X E m .sh b fb) : JE X E m .ow (.BinOp a .Add b pos) (f2 dAddL fa fb) := je_op op_addAll opd_addL ha hb
end
def dIx : D → D → Res D
  | .lst xs, .int i => match atI xs i with
    | some d => .ok d
    | none => .er
  | .frl xs, .int i => match atI xs i with
    | some d => .ok d
    | none => .er
  | .tup xs, .int i => match atI xs i with
    | some d => .ok d
    | none => .er
  | .str x, .int i => if szOk x.length = true then (match atI x.cps.toList i with
    | some c => .ok (.str ⟨#[c]⟩)
    | none => .er) else .er
  | _, _ => .er
section
variable {K : PySem.W.Frag} {mg : Str → Option Value} {X : Cx} {E : WX} {m : Mds} {md : Md} {a b : Expr} {es : List Expr} {fa fb : Env → Res D} {pos : Pos}
theorem RepL.atI {S : Hp} {vs : List V} {ds : List D} {i : Int} {d : D} (r : RepL K mg S vs ds) (h : L2.atI ds i = some d) : ∃ v, L2.atI vs i = some v ∧ Rep K mg S v d := by
  unfold L2.atI at h ⊢
  rw [r.len]
  cases e : ixN ds.length i with
  | none => rw [e] at h; cases h
  | some j =>
    rw [e] at h
    exact r.get h
theorem opd_ix : OpD K mg .sh (rIx K) dIx := by
  intro E S H x y dx dy Q hs rx ry h
  cases dx with
  | lst xs =>
    cases dy with
    | int i =>
      cases ry
      simp only [dIx] at h
      split at h
      · rename_i d e
        obtain ⟨p, vs, rfl, hp, rv⟩ := rx.of_lst
        obtain ⟨v, ev, r⟩ := rv.atI e
        exact .inl ⟨p, vs, i, v, rfl, rfl, .inl (.inl (hs _ _ hp)), ev, h.val hs r⟩
      · exact h.elim
    | _ => exact h.elim
  | frl xs =>
    cases dy with
    | int i =>
      cases ry
      simp only [dIx] at h
      split at h
      · rename_i d e
        obtain ⟨p, vs, rfl, hp, rv⟩ := rx.of_frl
        obtain ⟨v, ev, r⟩ := rv.atI e
        exact .inl ⟨p, vs, i, v, rfl, rfl, same_l hs hp, ev, h.val hs r⟩
      · exact h.elim
    | _ => exact h.elim
  | tup xs =>
    cases dy with
    | int i =>
      cases ry
      simp only [dIx] at h
      split at h
      · rename_i d e
        obtain ⟨p, vs, rfl, hp, rv⟩ := rx.of_tup
        obtain ⟨v, ev, r⟩ := rv.atI e
        exact .inr (.inl ⟨p, vs, i, v, rfl, rfl, same_t hs hp, ev, h.val hs r⟩)
      · exact h.elim
    | _ => exact h.elim
  | str z =>
    cases dy with
    | int i =>
      cases ry
      simp only [dIx] at h
      obtain ⟨hz, h⟩ := Post.of_if h
      split at h
      · rename_i c e
        cases rx
        exact .inr (.inr ⟨z, i, c, rfl, rfl, szOk_ok hz, e, h.val hs (.str _)⟩)
      · exact h.elim
    | _ => exact h.elim
  | _ => exact h.elim
theorem je_item (ha : JE X E m .sh a fa) (hb : JE X E m .sh b fb) (hs : PlainIx b := by intro _ _; rfl) : JE X E m .sh (.Subscript a b pos) (f2 dIx fa fb) := je_ix ix_seq opd_ix ha hb hs
end
section
variable {K : PySem.W.Frag} {mg : Str → Option Value} {X : Cx} {E : WX} {m : Mds} {md : Md} {a b e : Expr} {es : List Expr} {fa fb : Env → Res D} {fs : Env → Res (List D)} {pos p : Pos} {x : Str} {id T : String} {r : List V → Hp → VK → Prop} {g : List D → Res D}
theorem call1 {K : PySem.W.Frag} {mg : Str → Option Value} (hr : CallD K mg md r g) {σ : L2.St} {H : Hp} {Q : VK} (h : tE K mg E m md (fOn g fs) σ H Q) : tCB r (tA K mg E m fs) σ H Q := by
  obtain ⟨S, ρ, hm, hp⟩ := h
  exact ⟨S, ρ, hm, (Post.bind hp).imp fun ds S1 H1 s1 h1 vs rs => hr _ S1 H1 vs ds Q s1.sub rs h1⟩
theorem je_callB (hc : CallR X (.builtin id) r) (hr : CallD X.K X.mg md r g) (hm : X.mg x = none) (ha : JA X E m (e :: es) fs) (hg : Gl X x := by rfl) (hv : bootBuiltins x = some (.builtin id) := by decide +kernel)
    (hn : x ≠ "__name__" := by decide) (hdb : (x == ("__debug__" : Str)) = false := by decide) (he : starEach (e :: es) X.env = (false, eval e X.env) :: starEach es X.env := by rfl) (hpl : (backTo pos (starEach es X.env)).any (·.1) = false := by rfl) :
    JE X E m md (.Call (.Name x p) (e :: es) [] pos) (fOn g fs) := ⟨PEimp (pe_callB hc hg hm hv ha.pa hn hdb he hpl) fun σ H Q h => call1 hr h⟩
theorem je_callTy (hc : CallR X (.type T) r) (hr : CallD X.K X.mg md r g) (hm : X.mg x = none) (ha : JA X E m (e :: es) fs) (hg : Gl X x := by rfl) (hv : bootBuiltins x = some (.type T) := by decide +kernel)
    (hn : x ≠ "__name__" := by decide) (hdb : (x == ("__debug__" : Str)) = false := by decide) (he : starEach (e :: es) X.env = (false, eval e X.env) :: starEach es X.env := by rfl) (hpl : (backTo pos (starEach es X.env)).any (·.1) = false := by rfl) :
    JE X E m md (.Call (.Name x p) (e :: es) [] pos) (fOn g fs) := ⟨PEimp (pe_callTy hc hg hm hv ha.pa hn hdb he hpl) fun σ H Q h => call1 hr h⟩
end
end Da
namespace Da
open PySem PySem.Spec L2
inductive Fl where
  | nx (ρ : Env) | rt (d : D) | bk (ρ : Env) | ct (ρ : Env) | xc (c : Str) (fs : List (Str × D)) (ρ : Env)
abbrev FS := Env → Res Fl
/-- an expression's end, in a statement -/
def lift {α : Type} (r : Res α) (ρ : Env) (k : α → Res Fl) : Res Fl := match r with
  | .ok a => k a
  | .ex c fs => .ok (.xc c fs ρ)
  | .er => .er
@[simp] theorem lift_ok {α : Type} (a : α) (ρ : Env) (k : α → Res Fl) : lift (.ok a) ρ k = k a := rfl
@[simp] theorem lift_ex {α : Type} (c : Str) (fs : List (Str × D)) (ρ : Env) (k : α → Res Fl) : lift (.ex c fs : Res α) ρ k = .ok (.xc c fs ρ) := rfl
@[simp] theorem lift_er {α : Type} (ρ : Env) (k : α → Res Fl) : lift (.er : Res α) ρ k = .er := rfl
section
variable {K : PySem.W.Frag} {mg : Str → Option Value} {m m1 m2 : Mds} {S0 H0 S S1 S' H H' H1 : Hp} {σ σ' : L2.St} {ρ : Env} {F : Nat → List Addr}
/-- the state of a body that was entered with the view S0 of H0 -/
def StF (K : PySem.W.Frag) (mg : Str → Option Value) (m : Mds) (S0 H0 S : Hp) (F : Nat → List Addr) (σ : L2.St) (ρ : Env) (H : Hp) : Prop :=
  Step S0 H0 S H ∧ EnvF K mg m F S H σ ρ ∧ ∀ i d, ρ[i]? = some (some d) → ∀ a, a ∈ F i → H0 a = none
def StM (K : PySem.W.Frag) (mg : Str → Option Value) (m : Mds) (S0 H0 : Hp) (σ : L2.St) (ρ : Env) (H : Hp) : Prop := ∃ S F, StF K mg m S0 H0 S F σ ρ H
theorem StF.envM (h : StF K mg m S0 H0 S F σ ρ H) : EnvM K mg m S H σ ρ := ⟨h.1.sub, F, h.2.1⟩
theorem StF.step (h : StF K mg m S0 H0 S F σ ρ H) (s : Step S H S' H') : StF K mg m S0 H0 S' F σ ρ H' := ⟨h.1.trans s, h.2.1.step s, h.2.2⟩
/-- the entry moved to the present view, and back -/
theorem Step.fwd (h : Step S0 H0 S H) : Step S H0 S H := ⟨h.hh, Same.refl _, h.sub, fun _ x => .inl x⟩
theorem Step.back (h : Step S0 H0 S H) (k : Step S H0 S' H') : Step S0 H0 S' H' := ⟨k.hh, h.ss.trans k.ss, k.sub, fun a x => by
  rcases k.new a x with z | z
  · exact h.new a z
  · exact .inr z⟩
/-- a value handed out of a body -/
def RetOk (K : PySem.W.Frag) (mg : Str → Option Value) (S0 H0 : Hp) (md : Md) (d : D) (v : V) (H : Hp) : Prop := ∃ S fp, Step S0 H0 S H ∧ OwnAt K mg S H fp v d md ∧ fp.Nodup ∧ ∀ a, a ∈ fp → H0 a = none
/-- the ends of the loop around, what a return hands out -/
structure Lp where
  mb : Mds := []
  mc : Mds := []
  md : Md := .sh
/-- all slots shared -/
def SPost (K : PySem.W.Frag) (mg : Str → Option Value) (E : WX) (L : Lp) (S0 H0 : Hp) (m' : Mds) (o : Res Fl) (Dn : Ends) : Prop := match o with
  | .ok (.nx ρ) => ∀ σ H, StM K mg m' S0 H0 σ ρ H → Dn.nx σ H
  | .ok (.rt d) => ∀ v H, RetOk K mg S0 H0 L.md d v H → Dn.rt v H
  | .ok (.bk ρ) => ∀ σ H, StM K mg L.mb S0 H0 σ ρ H → Dn.bk σ H
  | .ok (.ct ρ) => ∀ σ H, StM K mg L.mc S0 H0 σ ρ H → Dn.ct σ H
  | .ok (.xc c fs ρ) => ∀ σ S F H cls dd, StF K mg [] S0 H0 S F σ ρ H → ExcAt K mg S H cls dd c fs → E cls dd σ H
  | .ex _ _ => False
  | .er => False
def tS (K : PySem.W.Frag) (mg : Str → Option Value) (E : WX) (L : Lp) (m m' : Mds) (F : FS) : TS := fun Dn σ H => ∃ S0 H0 ρ, StM K mg m S0 H0 σ ρ H ∧ SPost K mg E L S0 H0 m' (F ρ) Dn
/-- what lies at the addresses A is taken into the view -/
noncomputable def take (S H : Hp) (A : Addr → Prop) : Hp := open Classical in fun a => if A a then H a else S a
theorem take_in {A : Addr → Prop} {a : Addr} (h : A a) : take S H A a = H a := by unfold take; rw [if_pos h]
theorem take_out {A : Addr → Prop} {a : Addr} (h : ¬ A a) : take S H A a = S a := by unfold take; rw [if_neg h]
theorem take_same {A : Addr → Prop} (h : Same S H) (ho : ∀ a, A a → S a = none) : Same S (take S H A) := fun a o e => by
  rw [take_out (fun z => by rw [ho a z] at e; cases e)]
  exact e
theorem take_sub {A : Addr → Prop} (h : Same S H) : Same (take S H A) H := fun a o e => by
  by_cases z : A a
  · rw [take_in z] at e; exact e
  · rw [take_out z] at e; exact h a o e
theorem OwnTr.shared {A : Addr → Prop} (hs : Same S H) (ho : ∀ a, A a → S a = none) : ∀ {n : Nat} {fp : List Addr} {v : V} {d : D}, OwnTr K mg S H n fp v d → (∀ a, a ∈ fp → A a) → Rep K mg (take S H A) v d
  | 0, _, _, _, h, _ => h.1.mono (take_same (A := A) hs ho)
  | n + 1, _, _, _, h, hA => by
    obtain ⟨p, vs, ds, fps, rfl, rfl, e3, e4, e5, e6, e7, e8⟩ := h
    refine Rep.lstL (vs := vs) (by rw [take_in (hA p (by rw [e3]; exact List.mem_cons_self))]; exact e5) ⟨e6, fun i v d a b => ?_⟩
    have hl := (List.getElem?_eq_some_iff.mp b).1
    have hj := List.getElem?_eq_getElem (l := fps) (i := i) (by omega)
    exact (e8 i v d _ a b hj).shared hs ho fun a ha => hA a (by rw [e3]; exact List.mem_cons_of_mem _ (flat_mem hj ha))
theorem OwnTr.stays {A : Addr → Prop} (hs : Same S H) (ho : ∀ a, A a → S a = none) : ∀ {n : Nat} {fp : List Addr} {v : V} {d : D}, OwnTr K mg S H n fp v d → (∀ a, a ∈ fp → ¬ A a) → OwnTr K mg (take S H A) H n fp v d
  | 0, _, _, _, h, _ => ⟨h.1.mono (take_same (A := A) hs ho), h.2⟩
  | n + 1, _, _, _, h, hA => by
    obtain ⟨p, vs, ds, fps, e1, e2, e3, e4, e5, e6, e7, e8⟩ := h
    exact ⟨p, vs, ds, fps, e1, e2, e3, by rw [take_out (hA p (by rw [e3]; exact List.mem_cons_self))]; exact e4, e5, e6, e7, fun j w e f x y z => (e8 j w e f x y z).stays hs ho fun a ha => hA a (by rw [e3]; exact List.mem_cons_of_mem _ (flat_mem z ha))⟩
theorem OwnTh.shared {A : Addr → Prop} {fp : List Addr} {v : V} {d : D} {n k : Nat} {q : Addr} (hs : Same S H) (ho : ∀ a, A a → S a = none) (h : OwnTh K mg S H n k q fp v d) (hA : ∀ a, a ∈ fp → A a) : Rep K mg (take S H A) v d := by
  obtain ⟨p, vs, ds, fps, rfl, rfl, e3, e4, e5, e6, e7, h1, h2, h3, e8⟩ := h
  refine Rep.lstL (vs := vs) (by rw [take_in (hA p (by rw [e3]; exact List.mem_cons_self))]; exact e5) ⟨e6, fun i v d a b => ?_⟩
  by_cases hik : i = k
  · subst hik
    rw [h1] at a; rw [h2] at b
    cases a; cases b
    exact .exc
  · have hl := (List.getElem?_eq_some_iff.mp b).1
    have hj := List.getElem?_eq_getElem (l := fps) (i := i) (by omega)
    exact (e8 i v d _ hik a b hj).shared hs ho fun a ha => hA a (by rw [e3]; exact List.mem_cons_of_mem _ (flat_mem hj ha))
theorem OwnTh.stays {A : Addr → Prop} {fp : List Addr} {v : V} {d : D} {n k : Nat} {q : Addr} (hs : Same S H) (ho : ∀ a, A a → S a = none) (h : OwnTh K mg S H n k q fp v d) (hA : ∀ a, a ∈ fp → ¬ A a) : OwnTh K mg (take S H A) H n k q fp v d := by
  obtain ⟨p, vs, ds, fps, e1, e2, e3, e4, e5, e6, e7, h1, h2, h3, e8⟩ := h
  exact ⟨p, vs, ds, fps, e1, e2, e3, by rw [take_out (hA p (by rw [e3]; exact List.mem_cons_self))]; exact e4, e5, e6, e7, h1, h2, h3, fun j w e f i x y z => (e8 j w e f i x y z).stays hs ho fun a ha => hA a (by rw [e3]; exact List.mem_cons_of_mem _ (flat_mem z ha))⟩
theorem OwnAt.shared {A : Addr → Prop} {fp : List Addr} {v : V} {d : D} {md : Md} (h : OwnAt K mg S H fp v d md) (hs : Same S H) (ho : ∀ a, A a → S a = none) (hA : ∀ a, a ∈ fp → A a) : Rep K mg (take S H A) v d := by
  have ss := take_same (A := A) hs ho
  cases md with
  | owq q0 =>
    obtain ⟨e0, p, vs, ds, rfl, rfl, e3, e4, e5, e6⟩ := h
    exact Rep.lstL (by rw [take_in (hA p (by rw [e3]; exact List.mem_cons_self))]; exact e5) (e6.mono ss)
  | tr n b at_ =>
    cases b with
    | none => exact h.2.shared hs ho hA
    | some kq => exact h.2.shared hs ho hA
  | ex a0 b0 c0 =>
    obtain ⟨c, vfs, ds, e1, e2, e3, e4, e5, e6⟩ := h
    rw [e1, e2]; exact .exc
  | sh => exact h.1.mono ss
  | ow =>
    obtain ⟨p, vs, ds, rfl, rfl, e3, e4, e5, e6⟩ := h
    exact Rep.lstL (by rw [take_in (hA p (by rw [e3]; exact List.mem_cons_self))]; exact e5) (e6.mono ss)
  | ow2 =>
    obtain ⟨p, ps, dss, rfl, rfl, e3, e4, e5, e6, e7⟩ := h
    refine Rep.lstL (vs := ps.map V.ref) (by rw [take_in (hA p (by rw [e3]; exact List.mem_cons_self))]; exact e5) ⟨by rw [List.length_map, List.length_map, e6], fun i v d a b => ?_⟩
    rw [List.getElem?_map] at a b
    cases ea : ps[i]? with
    | none => rw [ea] at a; cases a
    | some q =>
      cases eb : dss[i]? with
      | none => rw [eb] at b; cases b
      | some ds =>
        rw [ea] at a; rw [eb] at b
        cases a; cases b
        obtain ⟨z1, vs, z2, z3⟩ := e7 i q ds ea eb
        exact Rep.lstL (by rw [take_in (hA q (by rw [e3]; exact List.mem_cons_of_mem _ (List.mem_of_getElem? ea)))]; exact z2) (z3.mono ss)
  | dk =>
    obtain ⟨p, kvs, ds, rfl, rfl, e3, e4, e5, e6⟩ := h
    have e6' := e6.mono ss
    refine Rep.dic (.inl (by rw [take_in (hA p (by rw [e3]; exact List.mem_cons_self))]; exact e5)) (by have := e6.len; rw [List.length_map] at this; exact this) fun i q d a b => ?_
    exact e6'.at_ i q.2 d (by rw [List.getElem?_map, a]; rfl) b
  | dt =>
    obtain ⟨p, kvs, ds, rfl, rfl, e3, e4, e5, e6⟩ := h
    have e6' := e6.mono ss
    refine Rep.dit (by rw [take_in (hA p (by rw [e3]; exact List.mem_cons_self))]; exact e5) (by have := e6.len; rw [List.length_map] at this; exact this) fun i q d a b => ?_
    exact e6'.at_ i q.2 d (by rw [List.getElem?_map, a]; rfl) b
  | ob p =>
    obtain ⟨dx, C, c, fs, ds, rfl, rfl, e3, e4, e5, e6, e7, e8, e9⟩ := h
    have e9' := e9.mono ss
    refine Rep.obj (by rw [take_in (hA p (by rw [e3]; exact List.mem_cons_self))]; exact e7) e6 (by have := e9.len; rw [List.length_map] at this; exact this) fun i q d a b => ?_
    exact e9'.at_ i q.2 d (by rw [List.getElem?_map, a]; rfl) b
/-- an owner whose addresses are not taken stays -/
theorem OwnAt.stays {A : Addr → Prop} {fp : List Addr} {v : V} {d : D} {md : Md} (h : OwnAt K mg S H fp v d md) (hs : Same S H) (ho : ∀ a, A a → S a = none) (hA : ∀ a, a ∈ fp → ¬ A a) : OwnAt K mg (take S H A) H fp v d md := by
  have ss := take_same (A := A) hs ho
  cases md with
  | owq q0 =>
    obtain ⟨e0, p, vs, ds, e1, e2, e3, e4, e5, e6⟩ := h
    exact ⟨e0, p, vs, ds, e1, e2, e3, by rw [take_out (hA p (by rw [e3]; exact List.mem_cons_self))]; exact e4, e5, e6.mono ss⟩
  | tr n b at_ =>
    cases b with
    | none => exact ⟨h.1, h.2.stays hs ho hA⟩
    | some kq => exact ⟨h.1, h.2.stays hs ho hA⟩
  | ex a0 b0 c0 =>
    obtain ⟨c, vfs, ds, e1, e2, e3, e4, e5, e6⟩ := h
    refine ⟨c, vfs, ds, e1, e2, e3, e4, e5.imp id fun ⟨dx, y1, y2⟩ => ⟨dx, y1, ss _ _ y2⟩, e6.mono (ss)⟩
  | sh => exact ⟨h.1.mono ss, h.2⟩
  | ow =>
    obtain ⟨p, vs, ds, e1, e2, e3, e4, e5, e6⟩ := h
    exact ⟨p, vs, ds, e1, e2, e3, by rw [take_out (hA p (by rw [e3]; exact List.mem_cons_self))]; exact e4, e5, e6.mono ss⟩
  | ow2 =>
    obtain ⟨p, ps, dss, e1, e2, e3, e4, e5, e6, e7⟩ := h
    refine ⟨p, ps, dss, e1, e2, e3, by rw [take_out (hA p (by rw [e3]; exact List.mem_cons_self))]; exact e4, e5, e6, fun j q ds x y => ?_⟩
    obtain ⟨z1, vs, z2, z3⟩ := e7 j q ds x y
    exact ⟨by rw [take_out (hA q (by rw [e3]; exact List.mem_cons_of_mem _ (List.mem_of_getElem? x)))]; exact z1, vs, z2, z3.mono ss⟩
  | dk =>
    obtain ⟨p, vs, ds, e1, e2, e3, e4, e5, e6⟩ := h
    exact ⟨p, vs, ds, e1, e2, e3, by rw [take_out (hA p (by rw [e3]; exact List.mem_cons_self))]; exact e4, e5, e6.mono ss⟩
  | dt =>
    obtain ⟨p, vs, ds, e1, e2, e3, e4, e5, e6⟩ := h
    exact ⟨p, vs, ds, e1, e2, e3, by rw [take_out (hA p (by rw [e3]; exact List.mem_cons_self))]; exact e4, e5, e6.mono ss⟩
  | ob p =>
    obtain ⟨dx, C, c, fs, ds, e1, e2, e3, e4, e5, e6, e7, e8, e9⟩ := h
    exact ⟨dx, C, c, fs, ds, e1, e2, e3, by rw [take_out (hA p (by rw [e3]; exact List.mem_cons_self))]; exact e4, by rw [take_out (hA dx (by rw [e3]; exact List.mem_cons_of_mem _ List.mem_cons_self))]; exact e5, e6, e7, e8, e9.mono ss⟩
/-- m1 has no more of one's own than m -/
def Weak (m m1 : Mds) : Prop := ∀ i, mdAt m1 i = mdAt m i ∨ mdAt m1 i = .sh
theorem mdAt_rep {n i : Nat} : mdAt (List.replicate n .sh) i = .sh := by
  unfold mdAt
  rw [List.getD_eq_getElem?_getD, List.getElem?_replicate]
  split <;> rfl
theorem weak_sh {m : Mds} (n : Nat) : Weak m (List.replicate n .sh) := fun i => .inr mdAt_rep
theorem Weak.nil (m : Mds) : Weak m [] := fun i => .inr (by unfold mdAt; simp)
theorem Weak.refl (m : Mds) : Weak m m := fun i => .inl rfl
theorem Weak.of : ∀ {m m1 : Mds}, (m.length = m1.length ∧ (m.zip m1).all (fun p => decide (p.2 = p.1) || decide (p.2 = .sh)) = true) → Weak m m1 := by
  intro m m1 h i
  obtain ⟨hl, h⟩ := h
  unfold mdAt
  by_cases hi : i < m.length
  · have hi1 : i < m1.length := by omega
    have := List.all_eq_true.mp h (m[i], m1[i]) (by
      refine List.mem_iff_getElem.mpr ⟨i, by rw [List.length_zip]; omega, ?_⟩
      rw [List.getElem_zip])
    rw [List.getD_eq_getElem?_getD, List.getD_eq_getElem?_getD, List.getElem?_eq_getElem hi, List.getElem?_eq_getElem hi1]
    rcases Bool.or_eq_true_iff.mp this with z | z
    · exact .inl (of_decide_eq_true z)
    · exact .inr (of_decide_eq_true z)
  · refine .inr ?_
    rw [List.getD_eq_getElem?_getD, List.getElem?_eq_none_iff.mpr (by omega)]
    rfl
theorem Weak.cons {x : Md} (w : Weak m m1) : Weak (x :: m) (x :: m1) := fun i => match i with
  | 0 => .inl rfl
  | i + 1 => w i
theorem Weak.consSh {x : Md} (w : Weak m m1) : Weak (x :: m) (.sh :: m1) := fun i => match i with
  | 0 => .inr rfl
  | i + 1 => w i
theorem StF.weakX (w : Weak m m1) (h : StF K mg m S0 H0 S F σ ρ H) : ∃ S' F', StF K mg m1 S0 H0 S' F' σ ρ H ∧ Same S S' ∧ ∀ a, S' a ≠ none → S a ≠ none ∨ ∃ i d, ρ[i]? = some (some d) ∧ a ∈ F i := by
  obtain ⟨st, e, nw⟩ := h
  let A : Addr → Prop := fun a => ∃ i d, ρ[i]? = some (some d) ∧ mdAt m1 i = .sh ∧ a ∈ F i
  have ho : ∀ a, A a → S a = none := fun a ⟨i, d, e1, _, e3⟩ => by
    obtain ⟨v, _, o⟩ := e.at_ i d e1
    exact (o.out e3).1
  let F' : Nat → List Addr := fun i => if mdAt m1 i = .sh then [] else F i
  refine ⟨take S H A, F', ⟨⟨st.hh, st.ss.trans (take_same st.sub ho), take_sub st.sub, fun a x => ?_⟩, ⟨e.len, fun i d e1 => ?_, fun i d e1 => ?_, fun i j d d' hij e1 e2 a ha => ?_⟩, fun i d e1 a ha => ?_⟩, take_same st.sub ho, fun a x => ?_⟩
  · by_cases z : A a
    · obtain ⟨i, d, e1, _, e3⟩ := z
      exact .inr (nw i d e1 a e3)
    · rw [take_out z] at x
      exact st.new a x
  · obtain ⟨v, e2, o⟩ := e.at_ i d e1
    refine ⟨v, e2, ?_⟩
    by_cases hsh : mdAt m1 i = .sh
    · rw [hsh]
      refine ⟨o.shared st.sub ho fun a ha => ⟨i, d, e1, hsh, ha⟩, ?_⟩
      show (if mdAt m1 i = .sh then [] else F i) = []
      rw [if_pos hsh]
    · rcases w i with z | z
      · rw [z]
        have : F' i = F i := if_neg hsh
        rw [this]
        refine o.stays st.sub ho fun a ha ⟨j, d', e1', e3', e4'⟩ => ?_
        by_cases hij : i = j
        · subst hij; exact hsh e3'
        · exact e.apart i j d d' hij e1 e1' a ha e4'
      · exact absurd z hsh
  · show (if mdAt m1 i = .sh then [] else F i).Nodup
    split
    · exact List.nodup_nil
    · exact e.nd i d e1
  · have ha' : a ∈ (if mdAt m1 i = .sh then [] else F i) := ha
    show a ∉ (if mdAt m1 j = .sh then [] else F j)
    split at ha'
    · cases ha'
    · split
      · exact fun z => nomatch z
      · exact e.apart i j d d' hij e1 e2 a ha'
  · have ha' : a ∈ (if mdAt m1 i = .sh then [] else F i) := ha
    split at ha'
    · cases ha'
    · exact nw i d e1 a ha'
  · by_cases z : A a
    · obtain ⟨i, d, e1, _, e3⟩ := z
      exact .inr ⟨i, d, e1, e3⟩
    · rw [take_out z] at x
      exact .inl x
theorem StF.weak (w : Weak m m1) (h : StF K mg m S0 H0 S F σ ρ H) : ∃ S' F', StF K mg m1 S0 H0 S' F' σ ρ H ∧ Same S S' := by
  obtain ⟨S', F', a, b, _⟩ := h.weakX w
  exact ⟨S', F', a, b⟩
theorem StM.weak (w : Weak m m1) (h : StM K mg m S0 H0 σ ρ H) : StM K mg m1 S0 H0 σ ρ H := by
  obtain ⟨S, F, h⟩ := h
  obtain ⟨S', F', h', _⟩ := h.weak w
  exact ⟨S', F', h'⟩
def F_set (F : Nat → List Addr) (i : Nat) (fp : List Addr) : Nat → List Addr := fun j => if j = i then fp else F j
theorem F_at {i : Nat} {fp : List Addr} : F_set F i fp i = fp := if_pos rfl
theorem F_off {i j : Nat} {fp : List Addr} (h : j ≠ i) : F_set F i fp j = F j := if_neg h
theorem mdAt_set {i j : Nat} {md : Md} (hi : i < m.length) : mdAt (m.set i md) j = if j = i then md else mdAt m j := by
  unfold mdAt
  rw [List.getD_eq_getElem?_getD, List.getElem?_set]
  by_cases h : j = i
  · rw [if_pos h.symm, if_pos h, if_pos hi]
    rfl
  · rw [if_neg (fun z => h z.symm), if_neg h, List.getD_eq_getElem?_getD]
theorem StF.set {i : Nat} {d : D} {v : V} {md : Md} {fp : List Addr} (h : StF K mg m S0 H0 S F σ ρ H) (hi : i < m.length) (o : OwnAt K mg S H fp v d md) (hn : fp.Nodup) (hf : ∀ a, a ∈ fp → H0 a = none)
    (hd : ∀ j e, j ≠ i → ρ[j]? = some (some e) → ∀ a, a ∈ F j → a ∉ fp) : StF K mg (m.set i md) S0 H0 S (F_set F i fp) (σ.set i (some v)) (ρ.set i (some d)) H := by
  obtain ⟨st, e, nw⟩ := h
  have key : ∀ j d', (ρ.set i (some d))[j]? = some (some d') → (j = i ∧ d' = d ∧ i < ρ.length) ∨ (j ≠ i ∧ ρ[j]? = some (some d')) := fun j d' ej => by
    by_cases hj : j = i
    · subst hj
      rw [List.getElem?_set, if_pos rfl] at ej
      split at ej
      · rename_i hl
        have : d = d' := by injection ej with z; injection z
        exact .inl ⟨rfl, this.symm, hl⟩
      · cases ej
    · rw [List.getElem?_set_ne (Ne.symm hj)] at ej
      exact .inr ⟨hj, ej⟩
  refine ⟨st, ⟨by rw [List.length_set, List.length_set]; exact e.len, fun j d' ej => ?_, fun j d' ej => ?_, fun j k d1 d2 hjk e1 e2 a ha => ?_⟩, fun j d' ej a ha => ?_⟩
  · rcases key j d' ej with ⟨rfl, rfl, hl⟩ | ⟨hj, ej'⟩
    · refine ⟨v, ?_, ?_⟩
      · rw [List.getElem?_set_self (by rw [← e.len]; exact hl)]
      · rw [mdAt_set hi, if_pos rfl, F_at]
        exact o
    · obtain ⟨w, e1, o1⟩ := e.at_ j d' ej'
      refine ⟨w, by rw [List.getElem?_set_ne (Ne.symm hj)]; exact e1, ?_⟩
      rw [mdAt_set hi, if_neg hj, F_off hj]
      exact o1
  · rcases key j d' ej with ⟨rfl, rfl, hl⟩ | ⟨hj, ej'⟩
    · rw [F_at]; exact hn
    · rw [F_off hj]; exact e.nd j d' ej'
  · rcases key j d1 e1 with ⟨rfl, rfl, hl⟩ | ⟨hj, ej⟩
    · rw [F_at] at ha
      rcases key k d2 e2 with ⟨z, _, _⟩ | ⟨hk, ek⟩
      · exact absurd z.symm hjk
      · rw [F_off hk]
        exact fun z => hd k d2 hk ek a z ha
    · rw [F_off hj] at ha
      rcases key k d2 e2 with ⟨rfl, _, _⟩ | ⟨hk, ek⟩
      · rw [F_at]
        exact hd j d1 hj ej a ha
      · rw [F_off hk]
        exact e.apart j k d1 d2 hjk ej ek a ha
  · rcases key j d' ej with ⟨rfl, rfl, hl⟩ | ⟨hj, ej'⟩
    · rw [F_at] at ha; exact hf a ha
    · rw [F_off hj] at ha; exact nw j d' ej' a ha
end
end Da
namespace Da
open PySem PySem.Spec L2
structure JS (X : Cx) (E : WX) (L : Lp) (m m' : Mds) (st : Stmt) (F : FS) : Prop where
  ps : PS X st (tS X.K X.mg E L m m' F)
structure JSs (X : Cx) (E : WX) (L : Lp) (m m' : Mds) (st : List Stmt) (F : FS) : Prop where
  ps : PSs X st (tS X.K X.mg E L m m' F)
def fNext : FS := fun ρ => .ok (.nx ρ)
def fSeq (F G : FS) : FS := fun ρ => match F ρ with
  | .ok (.nx ρ') => G ρ'
  | o => o
def fSet (i : Nat) (f : Env → Res D) : FS := fun ρ => lift (f ρ) ρ fun d => .ok (.nx (ρ.set i (some d)))
def fRet (f : Env → Res D) : FS := fun ρ => lift (f ρ) ρ fun d => .ok (.rt d)
def fRetN : FS := fun _ => .ok (.rt .non)
def fIfS (c : Env → Res Bool) (F G : FS) : FS := fun ρ => lift (c ρ) ρ fun b => if b = true then F ρ else G ρ
def fDrop (f : Env → Res D) : FS := fun ρ => lift (f ρ) ρ fun _ => .ok (.nx ρ)
def fBrk : FS := fun ρ => .ok (.bk ρ)
def fCnt : FS := fun ρ => .ok (.ct ρ)
section
variable {K : PySem.W.Frag} {mg : Str → Option Value} {m m1 m2 : Mds} {S0 H0 S S1 S' H H' H1 : Hp} {σ σ' : L2.St} {ρ : Env} {F : Nat → List Addr} {E : WX} {L : Lp} {Dn : Ends} {α : Type}
/-- an expression in a statement -/
theorem lift_post {r : Res α} {k : α → Res Fl} (h : StF K mg m S0 H0 S F σ ρ H) (p : SPost K mg E L S0 H0 m2 (lift r ρ k) Dn) : PostW K mg (WE E σ) S H r fun a S1 H1 => SPost K mg E L S0 H0 m2 (k a) Dn := by
  cases r with
  | ok a => exact fun S1 H1 s1 => p
  | ex c fs =>
    intro S1 H1 cls dd s1 x
    obtain ⟨S2, F2, h2, ss⟩ := (h.step s1).weak (Weak.nil m)
    refine p σ S2 F2 H1 cls dd h2 ⟨x.1, ?_⟩
    rcases x.2 with z | ⟨a, vfs, e1, e2, e3, e4⟩
    · exact .inl z
    · exact .inr ⟨a, vfs, e1, ss _ _ e2, e3, e4.mono ss⟩
  | er => exact p.elim
theorem StF.stM (h : StF K mg m S0 H0 S F σ ρ H) : StM K mg m S0 H0 σ ρ H := ⟨S, F, h⟩
/-- what is handed out of a pure expression -/
theorem RetOk.of {md : Md} {fp : List Addr} {v : V} {d : D} (st : Step S0 H0 S H) (s : Step S H S1 H1) (o : OwnAt K mg S1 H1 fp v d md) (hn : fp.Nodup) (hf : ∀ a, a ∈ fp → H a = none) : RetOk K mg S0 H0 md d v H1 :=
  ⟨S1, fp, st.trans s, o, hn, fun a ha => st.hh.free (hf a ha)⟩
theorem SPost.next {ρ' : Env} (p : SPost K mg E L S0 H0 m2 (.ok (.nx ρ')) Dn) (h : StM K mg m2 S0 H0 σ ρ' H) : Dn.nx σ H := p σ H h
end
section
variable {X : Cx} {E : WX} {L : Lp} {m m1 m2 m' : Mds} {md : Md} {st : Stmt} {sts rest : List Stmt} {e a b : Expr} {f fa fb : Env → Res D} {c : Expr} {g : Env → Res Bool} {F G : FS} {pos : Pos} {x : Str}
theorem PSsimp {t t' : TS} (h : PSs X sts t) (k : ∀ D σ H, t' D σ H → t D σ H) : PSs X sts t' := ⟨fun pins s σ H D I q => h.run pins s σ H D I (k D σ H q)⟩
theorem PSimp {t t' : TS} (h : PS X st t) (k : ∀ D σ H, t' D σ H → t D σ H) : PS X st t' := ⟨fun pins s σ H D I q => h.run pins s σ H D I (k D σ H q)⟩
theorem js_nil : JSs X E L m m [] fNext := ⟨PSsimp pss_nil fun D σ H h => by
  obtain ⟨S0, H0, ρ, st, p⟩ := h
  exact p σ H st⟩
theorem seq_ok {K : PySem.W.Frag} {mg : Str → Option Value} {D : Ends} {σ : L2.St} {H : Hp} (h : tS K mg E L m m2 (fSeq F G) D σ H) : tSeq (tS K mg E L m m1 F) (tS K mg E L m1 m2 G) D σ H := by
  obtain ⟨S0, H0, ρ, st, p⟩ := h
  refine ⟨S0, H0, ρ, st, ?_⟩
  unfold fSeq at p
  cases h : F ρ with
  | ok o =>
    rw [h] at p
    cases o with
    | nx ρ' => exact fun σ' H' st' => ⟨S0, H0, ρ', st', p⟩
    | rt d => exact p
    | bk ρ' => exact p
    | ct ρ' => exact p
    | xc c fs ρ' => exact p
  | ex c fs => rw [h] at p; exact p
  | er => rw [h] at p; exact p
theorem js_cons (h1 : JS X E L m m1 st F) (h2 : JSs X E L m1 m2 rest G) : JSs X E L m m2 (st :: rest) (fSeq F G) := ⟨PSsimp (pss_cons h1.ps h2.ps) fun D σ H h => seq_ok h⟩
theorem js_one (h1 : JS X E L m m1 st F) : JSs X E L m m1 [st] F := ⟨pss_one h1.ps⟩
theorem js_weak1 (h : JS X E L m1 m2 st F) (w : Weak m m1 := by first | exact Weak.of (by decide) | exact weak_sh _ | (repeat (first | exact Weak.refl _ | exact weak_sh _ | apply Weak.cons | apply Weak.consSh))) : JS X E L m m2 st F := ⟨PSimp h.ps fun D σ H q => by
  obtain ⟨S0, H0, ρ, st, p⟩ := q
  exact ⟨S0, H0, ρ, st.weak w, p⟩⟩
theorem SPost.weak {K : PySem.W.Frag} {mg : Str → Option Value} {S0 H0 : Hp} {o : Res Fl} {Dn : Ends} (w : Weak m1 m2) (p : SPost K mg E L S0 H0 m2 o Dn) : SPost K mg E L S0 H0 m1 o Dn := by
  cases o with
  | ok o =>
    cases o with
    | nx ρ' => exact fun σ' H' st' => p σ' H' (st'.weak w)
    | rt d => exact p
    | bk ρ' => exact p
    | ct ρ' => exact p
    | xc c fs ρ' => exact p
  | ex c fs => exact p
  | er => exact p
/-- .. behind a block -/
theorem js_end (h : JSs X E L m m1 sts F) (w : Weak m1 m2 := by first | exact Weak.of (by decide) | exact weak_sh _ | (repeat (first | exact Weak.refl _ | exact weak_sh _ | apply Weak.cons | apply Weak.consSh))) : JSs X E L m m2 sts F := ⟨PSsimp h.ps fun D σ H q => by
  obtain ⟨S0, H0, ρ, st, p⟩ := q
  exact ⟨S0, H0, ρ, st, p.weak w⟩⟩
theorem js_set (i : Nat) {pos' : Pos} (he : JE X E m md e f) (hN : X.N.Nodup) (hl : i < m.length := by first | decide | simp) (hi : X.N[i]? = some x := by rfl) (hx : Loc X.env.scope x := by first | exact Or.inl rfl | exact Or.inr rfl)
    (hs : swapsWith e (some (.Name x pos')) pos.line X.env = pure false := by rfl) (hf : X.fn x = true ∨ X.env.scope.names.lookup x = some .local := by first | exact .inl rfl | exact .inr rfl) :
    JS X E L m (m.set i md) (.Assign [.Name x pos'] e pos) (fSet i f) := by
  refine ⟨PSimp (ps_set hN hi hx he.pe hs hf) fun D σ H h => ?_⟩
  obtain ⟨S0, H0, ρ, ⟨S, Fp, st⟩, p⟩ := h
  refine ⟨S, ρ, st.envM, (lift_post st p).postM fun d v S1 H1 fp s1 o hn hf k => ?_⟩
  refine k _ _ (StF.stM ((st.step s1).set hl o hn (fun a ha => st.1.hh.free (hf a ha)) fun j e' hj ej a ha z => ?_))
  obtain ⟨w, _, o'⟩ := st.2.1.at_ j e' ej
  obtain ⟨_, u, hu⟩ := o'.out ha
  rw [hf a z] at hu
  cases hu
theorem js_ret (he : JE X E m L.md e f) : JS X E L m m' (.Return (some e) pos) (fRet f) := by
  refine ⟨PSimp (ps_ret he.pe) fun D σ H h => ?_⟩
  obtain ⟨S0, H0, ρ, ⟨S, Fp, st⟩, p⟩ := h
  refine ⟨S, ρ, st.envM, (lift_post st p).postM fun d v S1 H1 fp s1 o hn hf k => ?_⟩
  exact k v H1 (RetOk.of st.1 s1 o hn hf)
/-- an own thing is handed out -/
theorem js_retV (i : Nat) (hmd : mdAt m i = L.md := by rfl) (hN : X.N[i]? = some x := by rfl) (hv : Vis X.env.scope x := by first | exact Or.inl rfl | exact Or.inr (Or.inl rfl) | exact Or.inr (Or.inr rfl)) {p : Pos}
    (hd : (x == ("__debug__" : Str)) = false := by decide) (hcd : (x == ("__classdict__" : Str)) = false := by decide) : JS X E L m m' (.Return (some (.Name x p)) pos) (fRet (fV i)) := by
  refine ⟨PSimp (ps_ret (pe_var hN hv hd hcd)) fun D σ H h => ?_⟩
  obtain ⟨S0, H0, ρ, ⟨S, Fp, st⟩, p⟩ := h
  unfold fRet fV at p
  split at p
  · rename_i d e
    obtain ⟨v, e1, o⟩ := st.2.1.at_ i d e
    rw [hmd] at o
    exact ⟨v, e1, p v H ⟨S, _, st.1, o, st.2.1.nd i d e, st.2.2 i d e⟩⟩
  · exact p.elim
theorem js_if (hc : JT X E m c g) (ha : JSs X E L m m' sts F) (hb : JSs X E L m m' rest G) : JS X E L m m' (.If c sts rest pos) (fIfS g F G) := by
  refine ⟨PSimp (ps_if hc.pt ha.ps hb.ps) fun D σ H h => ?_⟩
  obtain ⟨S0, H0, ρ, ⟨S, Fp, st⟩, p⟩ := h
  refine ⟨S, ρ, st.envM, ?_⟩
  have k := lift_post st p
  cases hg : g ρ with
  | ok bb =>
    rw [hg] at k
    intro S1 H1 s1
    have k1 := k S1 H1 s1
    cases bb with
    | true => exact ⟨S0, H0, ρ, (st.step s1).stM, k1⟩
    | false => exact ⟨S0, H0, ρ, (st.step s1).stM, k1⟩
  | ex c' fs => rw [hg] at k; exact k
  | er => rw [hg] at k; exact k
theorem js_drop (he : JE X E m .sh e f) (hs : swapsWith e none pos.line X.env = pure false := by rfl) : JS X E L m m (.Expr e pos) (fDrop f) := by
  refine ⟨PSimp (ps_expr he.pe hs) fun D σ H h => ?_⟩
  obtain ⟨S0, H0, ρ, ⟨S, Fp, st⟩, p⟩ := h
  exact ⟨S, ρ, st.envM, (lift_post st p).post fun d v S1 H1 s1 r k => k σ H1 (st.step s1).stM⟩
theorem js_break (w : Weak m L.mb := by first | exact Weak.of (by decide) | exact weak_sh _ | (repeat (first | exact Weak.refl _ | exact weak_sh _ | apply Weak.cons | apply Weak.consSh))) : JS X E L m m' (.Break pos) fBrk := ⟨PSimp ps_break fun D σ H h => by
  obtain ⟨S0, H0, ρ, st, p⟩ := h
  exact p σ H (st.weak w)⟩
theorem set_sh {m : Mds} {i : Nat} (hl : i < m.length) (hmd : mdAt m i = .sh) : m.set i .sh = m := by
  refine List.ext_getElem? fun j => ?_
  rw [List.getElem?_set]
  unfold mdAt at hmd
  rw [List.getD_eq_getElem?_getD, List.getElem?_eq_getElem hl] at hmd
  split
  · rename_i hj
    subst hj
    rw [List.getElem?_eq_getElem hl]
    exact congrArg some hmd.symm
  · rfl
/-- x += e of whole numbers -/
def fAug (i : Nat) (g : D → D → Res D) (f : Env → Res D) : FS := fSet i (f2 g (fV i) f)
theorem js_aug (i : Nat) {pos' : Pos} {op : Operator} {gi : Int → Int → Int} (ho : PIp X op (ipI gi)) (he : JE X E m .sh e f) (hN : X.N.Nodup) (hmd : mdAt m i = .sh := by rfl) (hl : i < m.length := by first | decide | simp) (hi : X.N[i]? = some x := by rfl) (hx : Loc X.env.scope x := by first | exact Or.inl rfl | exact Or.inr rfl)
    (hf : X.fn x = true ∨ X.env.scope.names.lookup x = some .local := by first | exact .inl rfl | exact .inr rfl) : JS X E L m m (.AugAssign (.Name x pos') op e pos) (fAug i (dI yes2 gi) f) := by
  refine ⟨PSimp (ps_aug hN hi hx he.pe ho hf) fun D σ H h => ?_⟩
  obtain ⟨S0, H0, ρ, ⟨S, Fp, st⟩, p⟩ := h
  unfold fAug fSet f2 fV at p
  split at p
  · rename_i dx ex
    obtain ⟨vx, e1, o1⟩ := st.2.1.at_ i dx ex
    rw [hmd] at o1
    refine ⟨vx, e1, S, ρ, st.envM, ?_⟩
    have p' : SPost X.K X.mg E L S0 H0 m (lift ((f ρ).bind fun y => dI yes2 gi dx y) ρ fun d => .ok (.nx (ρ.set i (some d)))) D := p
    have k := PostW.bind (lift_post st p')
    refine k.post fun d v S1 H1 s1 r k1 => ?_
    cases dx with
    | int ix =>
      cases d with
      | int iy =>
        obtain ⟨rx, _⟩ := o1
        cases rx; cases r
        refine ⟨ix, iy, rfl, rfl, ?_⟩
        have k2 := k1 S1 H1 (Step.refl s1.sub)
        have st1 := (st.step s1).set (d := .int (gi ix iy)) (v := .int (gi ix iy)) (md := .sh) (fp := []) hl ⟨.int _, rfl⟩ List.nodup_nil (fun a z => nomatch z) (fun j e' hj ej a ha z => nomatch z)
        have em : m.set i .sh = m := set_sh hl hmd
        rw [em] at st1
        exact k2 _ _ st1.stM
      | _ => exact k1.elim
    | _ =>
      exact k1.elim
  · exact p.elim
def fApp (i : Nat) (f : Env → Res D) : FS := fun ρ => match ρ[i]? with
  | some (some (.lst xs)) => lift (f ρ) ρ fun d => if szOk (xs.length + 1) = true then .ok (.nx (ρ.set i (some (.lst (xs ++ [d]))))) else .er
  | _ => .er
theorem szOk_lt {n : Nat} (h : szOk (n + 1) = true) : n < sizeLine := by
  have := szOk_le h
  rw [sizeLine_eq]; omega
/-- an own list, at a known place or not -/
def IsOw (md : Md) : Prop := md = .ow ∨ ∃ q, md = .owq q
/-- the list of slot i is written -/
theorem StF.write {K : PySem.W.Frag} {mg : Str → Option Value} {S0 H0 S H : Hp} {Fp : Nat → List Addr} {σ : L2.St} {ρ : Env} {i : Nat} {xs ys : List D} {vs ws : List V} {p : Addr} (st : StF K mg m S0 H0 S Fp σ ρ H) (hl : i < m.length) (hmd : IsOw (mdAt m i)) (hρ : ρ[i]? = some (some (.lst xs)))
    (hp : Fp i = [p]) (hσ : σ[i]? = some (some (.ref p))) (sp : S p = none) (hv : H p = some (.lst vs)) (r : RepL K mg S ws ys) : StF K mg m S0 H0 S Fp σ (ρ.set i (some (.lst ys))) (upd H p (.lst ws)) := by
  obtain ⟨s, e, nw⟩ := st
  have hil : i < ρ.length := (List.getElem?_eq_some_iff.mp hρ).1
  have h0 : H0 p = none := nw i _ hρ p (by rw [hp]; exact List.mem_cons_self)
  have key : ∀ j d', (ρ.set i (some (.lst ys)))[j]? = some (some d') → (j = i ∧ d' = .lst ys) ∨ (j ≠ i ∧ ρ[j]? = some (some d')) := fun j d' ej => by
    by_cases hj : j = i
    · subst hj
      rw [List.getElem?_set_self hil] at ej
      injection ej with z; injection z with z
      exact .inl ⟨rfl, z.symm⟩
    · rw [List.getElem?_set_ne (Ne.symm hj)] at ej
      exact .inr ⟨hj, ej⟩
  have same : ∀ {B : Hp}, Same B H → B p = none → Same B (upd H p (.lst ws)) := fun hB hb a o ea => by
    rw [upd_ne (ne_of_none ea hb)]
    exact hB a o ea
  have pres : ∀ {d}, ρ[i]? = some (some d) ↔ d = .lst xs := fun {d} => by
    rw [hρ]
    constructor
    · intro z; injection z with z; injection z with z; exact z.symm
    · intro z; rw [z]
  refine ⟨⟨same s.hh h0, s.ss, same s.sub sp, s.new⟩, ⟨by rw [List.length_set]; exact e.len, fun j d' ej => ?_, fun j d' ej => ?_, fun j k d1 d2 hjk e1 e2 => ?_⟩, fun j d' ej => ?_⟩
  · rcases key j d' ej with ⟨rfl, rfl⟩ | ⟨hj, ej'⟩
    · refine ⟨_, hσ, ?_⟩
      rcases hmd with hmd | ⟨q, hmd⟩
      · rw [hmd]
        exact ⟨p, ws, ys, rfl, rfl, hp, sp, upd_same, r⟩
      · obtain ⟨w, e1, o1⟩ := e.at_ j _ hρ
        rw [hmd] at o1 ⊢
        rw [hσ] at e1
        cases e1
        exact ⟨o1.1, p, ws, ys, rfl, rfl, hp, sp, upd_same, r⟩
    · obtain ⟨w, e1, o1⟩ := e.at_ j d' ej'
      exact ⟨w, e1, o1.other sp fun z => e.apart i j _ d' (Ne.symm hj) hρ ej' p (by rw [hp]; exact List.mem_cons_self) z⟩
  · rcases key j d' ej with ⟨rfl, rfl⟩ | ⟨hj, ej'⟩
    · exact e.nd _ _ hρ
    · exact e.nd j d' ej'
  · have live : ∀ j d', (ρ.set i (some (.lst ys)))[j]? = some (some d') → ∃ d'', ρ[j]? = some (some d'') := fun j d' ej => by
      rcases key j d' ej with ⟨rfl, _⟩ | ⟨_, ej'⟩
      · exact ⟨_, hρ⟩
      · exact ⟨_, ej'⟩
    obtain ⟨d1', h1⟩ := live j d1 e1
    obtain ⟨d2', h2⟩ := live k d2 e2
    exact e.apart j k d1' d2' hjk h1 h2
  · rcases key j d' ej with ⟨rfl, rfl⟩ | ⟨hj, ej'⟩
    · exact nw _ _ hρ
    · exact nw j d' ej'
/-- what is known of an own list -/
theorem StF.own {K : PySem.W.Frag} {mg : Str → Option Value} {S0 H0 S H : Hp} {Fp : Nat → List Addr} {σ : L2.St} {ρ : Env} {i : Nat} {d : D} (st : StF K mg m S0 H0 S Fp σ ρ H) (hmd : IsOw (mdAt m i)) (hρ : ρ[i]? = some (some d)) :
    ∃ p vs ds, d = .lst ds ∧ Fp i = [p] ∧ σ[i]? = some (some (.ref p)) ∧ S p = none ∧ H p = some (.lst vs) ∧ RepL K mg S vs ds := by
  obtain ⟨v, e1, o⟩ := st.2.1.at_ i d hρ
  rcases hmd with hmd | ⟨q, hmd⟩
  · rw [hmd] at o
    obtain ⟨p, vs, ds, rfl, rfl, e3, e4, e5, e6⟩ := o
    exact ⟨p, vs, ds, rfl, e3, e1, e4, e5, e6⟩
  · rw [hmd] at o
    obtain ⟨e0, p, vs, ds, rfl, rfl, e3, e4, e5, e6⟩ := o
    exact ⟨p, vs, ds, rfl, e3, e1, e4, e5, e6⟩
theorem js_app (i : Nat) {p1 p2 p3 : Pos} (he : JE X E m .sh e f) (hmd : IsOw (mdAt m i) := by first | exact .inl rfl | exact .inr ⟨_, rfl⟩) (hl : i < m.length := by first | decide | simp) (hN : X.N[i]? = some x := by rfl) (hv : Vis X.env.scope x := by first | exact Or.inl rfl | exact Or.inr (Or.inl rfl) | exact Or.inr (Or.inr rfl))
    (hd : (x == ("__debug__" : Str)) = false := by decide) (hcd : (x == ("__classdict__" : Str)) = false := by decide)
    (hs : swapsWith (.Call (.Attribute (.Name x p1) "append" p2) [e] [] p3) none pos.line X.env = pure false := by rfl)
    (hpe : ∀ {to te : TE}, PE X (.Name x p1) to → PE X e te → PE X (.Call (.Attribute (.Name x p1) "append" p2) [e] [] p3) (tBM X.K "list" rAppend to (tCons te tNil)) := by
      intro to te ho he
      exact pe_bm PySem.F.plainAttrs_list PySem.F.slot_list_append PySem.F.type_list_append mt_append ho (pa_cons he pa_nil)) :
    JS X E L m m (.Expr (.Call (.Attribute (.Name x p1) "append" p2) [e] [] p3) pos) (fApp i f) := by
  refine ⟨PSimp (ps_expr (hpe (pe_var hN hv hd hcd) he.pe) hs) fun D σ H h => ?_⟩
  obtain ⟨S0, H0, ρ, ⟨S, Fp, st⟩, p⟩ := h
  unfold fApp at p
  split at p
  · rename_i xs exs
    obtain ⟨pa, vs, ds, eds, e1, e2, e3, e4, e5⟩ := st.own hmd exs
    cases eds
    refine ⟨_, e2, .inl ⟨rfl, vs, .inl (.inl e4)⟩, S, ρ, st.envM, (lift_post st p).post fun d v S1 H1 s1 r k => ?_⟩
    split at k
    · rename_i hz
      obtain ⟨qa, vs1, ds1, eds, q1, q2, q3, q4, q5⟩ := (st.step s1).own hmd exs
      cases eds
      obtain rfl : qa = pa := by
        rw [e2] at q2
        injection q2 with z; injection z with z; injection z with z
        exact z.symm
      refine ⟨qa, vs1, v, rfl, rfl, q4, by rw [q5.len]; exact szOk_lt hz, ?_⟩
      exact k _ _ ((st.step s1).write hl hmd exs q1 q2 q3 q4 (q5.snoc r)).stM
    · exact k.elim
  · exact p.elim
/-- x[j] = e of an own list -/
def fSetIx (i : Nat) (fe fj : Env → Res D) : FS := fun ρ => match ρ[i]? with
  | some (some (.lst xs)) => lift (fe ρ) ρ fun d => lift (fj ρ) ρ fun j => match j with
    | .int z => (match ixN xs.length z with
      | some k => .ok (.nx (ρ.set i (some (.lst (xs.set k d)))))
      | none => .er)
    | _ => .er
  | _ => .er
theorem js_setix (i : Nat) {p1 p2 : Pos} {j : Expr} {fj : Env → Res D} (he : JE X E m .sh e f) (hj : JE X E m .sh j fj) (hmd : IsOw (mdAt m i) := by first | exact .inl rfl | exact .inr ⟨_, rfl⟩) (hl : i < m.length := by first | decide | simp) (hN : X.N[i]? = some x := by rfl) (hv : Vis X.env.scope x := by first | exact Or.inl rfl | exact Or.inr (Or.inl rfl) | exact Or.inr (Or.inr rfl))
    (hd : (x == ("__debug__" : Str)) = false := by decide) (hcd : (x == ("__classdict__" : Str)) = false := by decide)
    (hps : ∀ {to ti te : TE}, PE X (.Name x p1) to → PE X j ti → PE X e te → PS X (.Assign [.Subscript (.Name x p1) j p2] e pos) (tAsg te (gSub to ti rSetL)) := by
      intro to ti te ho hi he
      exact ps_asg he (pg_sub ho hi set_list)) :
    JS X E L m m (.Assign [.Subscript (.Name x p1) j p2] e pos) (fSetIx i f fj) := by
  refine ⟨PSimp (hps (pe_var hN hv hd hcd) hj.pe he.pe) fun D σ H h => ?_⟩
  obtain ⟨S0, H0, ρ, ⟨S, Fp, st⟩, p⟩ := h
  unfold fSetIx at p
  split at p
  · rename_i xs exs
    obtain ⟨pa, vs, ds, eds, e1, e2, e3, e4, e5⟩ := st.own hmd exs
    refine ⟨S, ρ, st.envM, (lift_post st p).post fun d v S1 H1 s1 r k => ⟨_, e2, S1, ρ, (st.step s1).envM, (lift_post (st.step s1) k).post fun dj vj S2 H2 s2 rj k2 => ?_⟩⟩
    cases dj with
    | int z =>
      cases rj
      have k2 : SPost X.K X.mg E L S0 H0 m (match ixN xs.length z with
        | some k => .ok (.nx (ρ.set i (some (.lst (xs.set k d)))))
        | none => .er) D := k2
      split at k2
      · rename_i kk ek
        obtain ⟨qa, vs1, ds1, eds1, q1, q2, q3, q4, q5⟩ := ((st.step s1).step s2).own hmd exs
        cases eds1
        obtain rfl : qa = pa := by
          rw [e2] at q2
          injection q2 with z; injection z with z; injection z with z
          exact z.symm
        exact ⟨qa, vs1, z, kk, rfl, rfl, q4, by rw [q5.len]; exact ek, k2 _ _ (((st.step s1).step s2).write hl hmd exs q1 q2 q3 q4 (q5.set kk (r.mono s2.ss))).stM⟩
      · exact k2.elim
    | _ => exact k2.elim
  · exact p.elim
end
end Da
namespace Da
open PySem PySem.Spec L2
/-- the loop over the items -/
def forGo (g : D → Env → Res Env) (F : FS) : List D → FS
  | [], ρ => .ok (.nx ρ)
  | x :: xs, ρ => match g x ρ with
    | .ok ρ1 => (match F ρ1 with
      | .ok (.nx ρ2) => forGo g F xs ρ2
      | .ok (.ct ρ2) => forGo g F xs ρ2
      | .ok (.bk ρ2) => .ok (.nx ρ2)
      | o => o)
    | _ => .er
def fFor (it : Env → Res (List D)) (g : D → Env → Res Env) (F : FS) : FS := fun ρ => lift (it ρ) ρ fun xs => forGo g F xs ρ
/-- while, in at most n turns -/
def whileGo (c : Env → Res Bool) (F : FS) : Nat → FS
  | 0, _ => .er
  | n + 1, ρ => lift (c ρ) ρ fun b => if b = true then (match F ρ with
      | .ok (.nx ρ2) => whileGo c F n ρ2
      | .ok (.ct ρ2) => whileGo c F n ρ2
      | .ok (.bk ρ2) => .ok (.nx ρ2)
      | o => o) else .ok (.nx ρ)
def FUEL : Nat := 1000000000000000000
def fWhile (c : Env → Res Bool) (F : FS) : FS := whileGo c F FUEL
/-- the iterator J gives the items ds, from the view S on -/
structure WalkD (K : PySem.W.Frag) (mg : Str → Option Value) (J : It) (S : Hp) (ds : List D) : Prop where
  go : ∀ i d S1 H1, ds[i]? = some d → Same S S1 → Same S1 H1 → J.go i H1 ∧ ∀ x H2, J.yld i H1 x H2 → ∃ S2, Step S1 H1 S2 H2 ∧ Rep K mg S2 x d
  stop : ∀ S1 H1, Same S S1 → Same S1 H1 → J.stop ds.length H1
def tI (K : PySem.W.Frag) (mg : Str → Option Value) (E : WX) (m : Mds) (f : Env → Res (List D)) : TI := fun σ H R => ∃ S ρ, EnvM K mg m S H σ ρ ∧ PostW K mg (WE E σ) S H (f ρ) fun ds S' H' => ∀ J, WalkD K mg J S' ds → R J H'
structure JI (X : Cx) (E : WX) (m : Mds) (tg iter : Expr) (f : Env → Res (List D)) : Prop where
  pi : PI X tg iter (tI X.K X.mg E m f)
/-- a target takes a value -/
def tGD (K : PySem.W.Frag) (mg : Str → Option Value) (m : Mds) (ts : List Nat) (g : D → Env → Res Env) : TG := fun v σ H Q => ∃ S0 H0 S F ρ d, StF K mg m S0 H0 S F σ ρ H ∧ Rep K mg S v d ∧ (match g d ρ with
  | .ok ρ1 => ∀ σ1 S1 F1 H1, StF K mg m S0 H0 S1 F1 σ1 ρ1 H1 → Step S H S1 H1 → (σ1.length = σ.length ∧ ∀ j, j ∉ ts → σ1[j]? = σ[j]?) → Q σ1 H1
  | _ => False)
structure JG (X : Cx) (m : Mds) (ts : List Nat) (tg : Expr) (g : D → Env → Res Env) : Prop where
  pg : PG X tg (tGD X.K X.mg m ts g)
section
variable {X : Cx} {E : WX} {L : Lp} {m m1 m2 m' : Mds} {md : Md} {st : Stmt} {sts rest : List Stmt} {e a b tg iter : Expr} {f fa fb : Env → Res D} {c : Expr} {g : Env → Res Bool} {F G : FS} {pos : Pos} {x : Str} {it : Env → Res (List D)} {gt : D → Env → Res Env}
/-- a name: what it holds is shared -/
def gN (i : Nat) : D → Env → Res Env := fun d ρ => .ok (ρ.set i (some d))
theorem jg_name (i : Nat) (hN : X.N.Nodup) (hmd : mdAt m i = .sh := by rfl) (hl : i < m.length := by first | decide | simp) (hi : X.N[i]? = some x := by rfl) (hx : Loc X.env.scope x := by first | exact Or.inl rfl | exact Or.inr rfl)
    (hf : X.fn x = true ∨ X.env.scope.names.lookup x = some .local := by first | exact .inl rfl | exact .inr rfl) : JG X m [i] (.Name x pos) (gN i) := by
  refine ⟨⟨fun pins s σ H v u Q I r h => ?_⟩⟩
  refine (pg_name hN hi hx hf).run pins s σ H v u Q I r ?_
  obtain ⟨S0, H0, S, Fp, ρ, d, st, rd, p⟩ := h
  have st1 := st.set (d := d) (v := v) (md := .sh) (fp := []) hl ⟨rd, rfl⟩ List.nodup_nil (fun a z => nomatch z) (fun j e' hj ej a ha z => nomatch z)
  rw [set_sh hl hmd] at st1
  exact p _ S _ H st1 (Step.refl st.1.sub) ⟨List.length_set, fun j hj => List.getElem?_set_ne fun z => hj (by rw [z]; exact List.mem_cons_self)⟩
theorem js_for (hi : JI X E m tg iter it) {ts : List Nat} (hg : JG X m ts tg gt) (hb : JSs X E ⟨m, m, L.md⟩ m m sts F) (hp : PassesOwn (model X.prog X.w) X.A X.env X.xe) (hc : X.calm = true := by rfl)
    (hs : ∀ x, foldedSetIterable iter X.env x = pure x := by intro _; rfl) : JS X E L m m (.For tg iter sts [] pos) (fFor it gt F) := by
  refine ⟨PSimp (ps_for hp hc hi.pi hg.pg hb.ps hs) fun D σ H h => ?_⟩
  obtain ⟨S0, H0, ρ, ⟨S, Fp, st⟩, p⟩ := h
  refine ⟨S, ρ, st.envM, (lift_post st p).imp fun ds S1 H1 s1 k J w => ?_⟩
  -- from here on the entry is (S1, H0)
  have st1 := st.step s1
  refine ⟨fun i n σ H => n = ds.length - i ∧ i ≤ ds.length ∧ ∃ S2 F2 ρ2, StF X.K X.mg m S1 H0 S2 F2 σ ρ2 H ∧ SPost X.K X.mg E L S0 H0 m (forGo gt F (ds.drop i) ρ2) D, ⟨ds.length, by simp, Nat.zero_le _, S1, Fp, ρ, ⟨st1.1.fwd, st1.2⟩, k⟩, ?_⟩
  rintro i n σ2 H2 ⟨rfl, hi, S2, F2, ρ2, st2, p2⟩
  by_cases hlt : i < ds.length
  · obtain ⟨hgo, hyl⟩ := w.go i ds[i] S2 H2 (List.getElem?_eq_getElem hlt) st2.1.ss st2.1.sub
    refine .inr ⟨hgo, fun σ' H' => ∃ S3 F3 ρ3, StF X.K X.mg m S1 H0 S3 F3 σ' ρ3 H' ∧ SPost X.K X.mg E L S0 H0 m (forGo gt F (ds.drop (i + 1)) ρ3) D, fun σ' H' z => ⟨ds.length - (i + 1), by omega, rfl, hlt, z⟩, fun x H3 y => ?_⟩
    obtain ⟨S3, s3, r3⟩ := hyl x H3 y
    refine ⟨S1, H0, S3, F2, ρ2, ds[i], st2.step s3, r3, ?_⟩
    rw [List.drop_eq_getElem_cons hlt] at p2
    unfold forGo at p2
    cases eg : gt ds[i] ρ2 with
    | ok ρ3 =>
      rw [eg] at p2
      refine fun σ4 S4 F4 H4 st4 s4 _ => ⟨S1, H0, ρ3, st4.stM, ?_⟩
      have p3 : SPost X.K X.mg E L S0 H0 m (match F ρ3 with
        | .ok (.nx ρ2) => forGo gt F (ds.drop (i + 1)) ρ2
        | .ok (.ct ρ2) => forGo gt F (ds.drop (i + 1)) ρ2
        | .ok (.bk ρ2) => .ok (.nx ρ2)
        | o => o) D := p2
      cases ef : F ρ3 with
      | ok o =>
        rw [ef] at p3
        cases o with
        | nx ρ5 => exact fun σ5 H5 ⟨S5, F5, st5⟩ => ⟨S5, F5, ρ5, st5, p3⟩
        | ct ρ5 => exact fun σ5 H5 ⟨S5, F5, st5⟩ => ⟨S5, F5, ρ5, st5, p3⟩
        | bk ρ5 => exact fun σ5 H5 ⟨S5, F5, st5⟩ => p3 σ5 H5 ⟨S5, F5, st1.1.back st5.1, st5.2⟩
        | rt d => exact fun v H5 ⟨S5, fp, s5, o5⟩ => p3 v H5 ⟨S5, fp, st1.1.back s5, o5⟩
        | xc c' fs ρ5 => exact fun σ5 S5 F5 H5 cls dd st5 x5 => p3 σ5 S5 F5 H5 cls dd ⟨st1.1.back st5.1, st5.2⟩ x5
      | ex c' fs => rw [ef] at p3; exact p3
      | er => rw [ef] at p3; exact p3
    | ex c' fs => rw [eg] at p2; exact p2
    | er => rw [eg] at p2; exact p2
  · have e : i = ds.length := by omega
    subst e
    rw [List.drop_length] at p2
    exact .inl ⟨w.stop S2 H2 st2.1.ss st2.1.sub, p2 σ2 H2 ⟨S2, F2, st1.1.back st2.1, st2.2⟩⟩
theorem js_while (hc : JT X E m c g) (hb : JSs X E ⟨m, m, L.md⟩ m m sts F) (hp : PassesOwn (model X.prog X.w) X.A X.env X.xe) : JS X E L m m (.While c sts [] pos) (fWhile g F) := by
  refine ⟨PSimp (ps_while hp hc.pt hb.ps) fun D σ H h => ?_⟩
  obtain ⟨S0, H0, ρ, ⟨S, Fp, st⟩, p⟩ := h
  refine ⟨fun n σ H => ∃ S2 F2 ρ2, StF X.K X.mg m S0 H0 S2 F2 σ ρ2 H ∧ SPost X.K X.mg E L S0 H0 m (whileGo g F n ρ2) D, ⟨FUEL, S, Fp, ρ, st, p⟩, ?_⟩
  rintro n σ2 H2 ⟨S2, F2, ρ2, st2, p2⟩
  cases n with
  | zero => exact p2.elim
  | succ n =>
    unfold whileGo at p2
    have k := lift_post st2 p2
    refine ⟨S2, ρ2, st2.envM, k.imp fun b S3 H3 s3 k3 => ?_⟩
    cases b with
    | true =>
      refine ⟨fun σ' H' => ∃ S3 F3 ρ3, StF X.K X.mg m S0 H0 S3 F3 σ' ρ3 H' ∧ SPost X.K X.mg E L S0 H0 m (whileGo g F n ρ3) D, fun σ' H' z => ⟨n, Nat.lt_succ_self n, z⟩, S0, H0, ρ2, (st2.step s3).stM, ?_⟩
      have p3 : SPost X.K X.mg E L S0 H0 m (match F ρ2 with
        | .ok (.nx ρ2) => whileGo g F n ρ2
        | .ok (.ct ρ2) => whileGo g F n ρ2
        | .ok (.bk ρ2) => .ok (.nx ρ2)
        | o => o) D := k3
      cases ef : F ρ2 with
      | ok o =>
        rw [ef] at p3
        cases o with
        | nx ρ5 => exact fun σ5 H5 ⟨S5, F5, st5⟩ => ⟨S5, F5, ρ5, st5, p3⟩
        | ct ρ5 => exact fun σ5 H5 ⟨S5, F5, st5⟩ => ⟨S5, F5, ρ5, st5, p3⟩
        | bk ρ5 => exact p3
        | rt d => exact p3
        | xc c' fs ρ5 => exact p3
      | ex c' fs => rw [ef] at p3; exact p3
      | er => rw [ef] at p3; exact p3
    | false => exact k3 σ2 H3 (st2.step s3).stM
def asL : D → Res (List D)
  | .lst xs => .ok xs
  | .frl xs => .ok xs
  | .tup xs => .ok xs
  | _ => .er
theorem walk_l {K : PySem.W.Frag} {mg : Str → Option Value} {S : Hp} {a : Addr} {vs : List V} {ds : List D} (h : SqL K S a vs) (r : RepL K mg S vs ds) : WalkD K mg (Itl K a) S ds where
  go := fun i d S1 H1 e s1 s2 => by
    obtain ⟨v, ev, rv⟩ := r.get e
    refine ⟨⟨vs, v, same_l s2 (same_l s1 h), ev⟩, fun x H2 ⟨e2, y⟩ => ?_⟩
    subst e2
    have := y vs (same_l s2 (same_l s1 h))
    rw [ev] at this
    cases this
    exact ⟨S1, Step.refl s2, rv.mono s1⟩
  stop := fun S1 H1 s1 s2 => ⟨vs, same_l s2 (same_l s1 h), Nat.le_of_eq r.len⟩
theorem walk_t {K : PySem.W.Frag} {mg : Str → Option Value} {S : Hp} {a : Addr} {vs : List V} {ds : List D} (h : SqT K S a vs) (r : RepL K mg S vs ds) : WalkD K mg (Itt K a) S ds where
  go := fun i d S1 H1 e s1 s2 => by
    obtain ⟨v, ev, rv⟩ := r.get e
    refine ⟨⟨vs, v, same_t s2 (same_t s1 h), ev⟩, fun x H2 ⟨e2, y⟩ => ?_⟩
    subst e2
    have := y vs (same_t s2 (same_t s1 h))
    rw [ev] at this
    cases this
    exact ⟨S1, Step.refl s2, rv.mono s1⟩
  stop := fun S1 H1 s1 s2 => ⟨vs, same_t s2 (same_t s1 h), Nat.le_of_eq r.len⟩
def iSeq (K : PySem.W.Frag) (tl : TE) : TI := fun σ H R => tl σ H fun x H1 => ∃ a, x = .ref a ∧ ((∃ xs, SqL K H1 a xs) ∧ R (Itl K a) H1 ∨ (∃ xs, SqT K H1 a xs) ∧ R (Itt K a) H1)
theorem pi_seq {l : Expr} {tl : TE} (hl : PE X l tl) : PI X tg l (iSeq X.K tl) := by
  refine ⟨fun pins s σ H R I h => thn (hl.run pins s σ H _ I h) fun v s1 hv => ?_⟩
  obtain ⟨y, Hy, Iy, ry, a, rfl, q⟩ := hv
  cases ry
  have fresh : ∀ b, b ∈ [s1.heap.objs.size] → FpOk X pins Hy b := fun b hb => by
    rw [List.mem_singleton.mp hb]
    exact Iy.fpOk (Nat.le_refl _) (Iy.hok.fresh (Nat.le_refl _))
  rcases q with ⟨⟨xs, hq⟩, q⟩ | ⟨⟨xs, hq⟩, q⟩
  · obtain ⟨its, _, pl, _⟩ := Iy.list hq
    refine wpAny_pyIter_list pl.isList ⟨_, [_], _, Itl X.K a, Hy, rfl, ?_, turn_list a _, ?_, fresh, q⟩
    · exact Iy.kept (t' := s1.toks) fun b o e => Heap.get?_push_of_some _ e
    · exact ⟨_, Heap.get?_push_size _ rfl, rfl, rfl⟩
  · obtain ⟨its, _, pl, _⟩ := Iy.tuple hq
    refine wpAny_pyIter_tuple (show s1.heap.IsTuple a its.toArray from pl) ⟨_, [_], _, Itt X.K a, Hy, rfl, ?_, turn_tuple a _, ?_, fresh, q⟩
    · exact Iy.kept (t' := s1.toks) fun b o e => Heap.get?_push_of_some _ e
    · exact ⟨_, Heap.get?_push_size _ rfl, rfl, rfl⟩
def fL (f : Env → Res D) : Env → Res (List D) := fun ρ => (f ρ).bind asL
theorem ji_seq (he : JE X E m .sh e f) : JI X E m tg e (fL f) := by
  refine ⟨⟨fun pins s σ H R I h => (pi_seq he.pe).run pins s σ H R I ?_⟩⟩
  obtain ⟨S, ρ, hm, hp⟩ := h
  refine ⟨S, ρ, hm, (PostW.bind hp).post fun d v S1 H1 s1 r k => ?_⟩
  cases d with
  | lst xs =>
    obtain ⟨a, vs, rfl, ha, rv⟩ := r.of_lst
    exact ⟨a, rfl, .inl ⟨⟨vs, .inl (.inl (s1.sub _ _ ha))⟩, k S1 H1 (Step.refl s1.sub) _ (walk_l (.inl (.inl ha)) rv)⟩⟩
  | frl xs =>
    obtain ⟨a, vs, rfl, ha, rv⟩ := r.of_frl
    exact ⟨a, rfl, .inl ⟨⟨vs, same_l s1.sub ha⟩, k S1 H1 (Step.refl s1.sub) _ (walk_l ha rv)⟩⟩
  | tup xs =>
    obtain ⟨a, vs, rfl, ha, rv⟩ := r.of_tup
    exact ⟨a, rfl, .inr ⟨⟨vs, same_t s1.sub ha⟩, k S1 H1 (Step.refl s1.sub) _ (walk_t ha rv)⟩⟩
  | _ => exact k.elim
def rng (lo : Int) (n : Nat) : List D := (List.range n).map fun (i : Nat) => D.int (lo + i)
theorem walk_r {K : PySem.W.Frag} {mg : Str → Option Value} {S : Hp} (lo : Int) (n : Nat) : WalkD K mg (Itr lo n) S (rng lo n) where
  go := fun i d S1 H1 e s1 s2 => by
    unfold rng at e
    rw [List.getElem?_map] at e
    have hi : i < n := by
      cases q : (List.range n)[i]? with
      | none => rw [q] at e; cases e
      | some j =>
        have := (List.getElem?_eq_some_iff.mp q).1
        rwa [List.length_range] at this
    rw [List.getElem?_range hi] at e
    cases e
    exact ⟨hi, fun x H2 ⟨e2, y⟩ => by subst e2 y; exact ⟨S1, Step.refl s2, .int _⟩⟩
  stop := fun S1 H1 s1 s2 => by
    show n ≤ (rng lo n).length
    unfold rng
    rw [List.length_map, List.length_range]
    exact Nat.le_refl _
def rngOk (i j : Int) : Bool := stuck (-(4611686018427387904) ≤ i ∧ i < 4611686018427387904 ∧ -(4611686018427387904) ≤ j ∧ j < 4611686018427387904)
theorem rngOk_ok {i j : Int} (h : rngOk i j = true) : -(2 ^ 62) ≤ i ∧ i < 2 ^ 62 ∧ -(2 ^ 62) ≤ j ∧ j < 2 ^ 62 := by
  obtain ⟨h1, h2, h3, h4⟩ := stuck_iff.mp h
  have e : (2 : Int) ^ 62 = 4611686018427387904 := by decide
  rw [e]
  exact ⟨h1, h2, h3, h4⟩
def gRng1 : List D → Res (List D)
  | [.int j] => if rngOk 0 j = true then .ok (rng 0 j.toNat) else .er
  | _ => .er
def gRng2 : List D → Res (List D)
  | [.int i, .int j] => if rngOk i j = true then .ok (rng i (j - i).toNat) else .er
  | _ => .er
theorem gRng1_ok {ds xs : List D} (h : gRng1 ds = .ok xs) : ∃ j, ds = [.int j] ∧ rngOk 0 j = true ∧ xs = rng 0 j.toNat := by
  unfold gRng1 at h
  split at h
  · rename_i j
    split at h
    · rename_i hk
      injection h with h
      exact ⟨j, rfl, hk, h.symm⟩
    · cases h
  · cases h
theorem gRng1_ex {ds : List D} {c : Str} {fs : List (Str × D)} : gRng1 ds ≠ .ex c fs := by
  unfold gRng1
  split
  · split <;> exact fun z => nomatch z
  · exact fun z => nomatch z
def fR1 (fs : Env → Res (List D)) : Env → Res (List D) := fun ρ => (fs ρ).bind gRng1
def fR2 (fs : Env → Res (List D)) : Env → Res (List D) := fun ρ => (fs ρ).bind gRng2
theorem PostW.of_if {α : Type} {K : PySem.W.Frag} {mg : Str → Option Value} {E : XK} {S H : Hp} {r : Res α} {c : Bool} {k : α → Hp → Hp → Prop} (h : PostW K mg E S H (if c = true then r else .er) k) : c = true ∧ PostW K mg E S H r k := by
  split at h
  · rename_i hc; exact ⟨hc, h⟩
  · exact h.elim
theorem RepL.int1 {K : PySem.W.Frag} {mg : Str → Option Value} {S : Hp} {vs : List V} {j : Int} (r : RepL K mg S vs [.int j]) : vs = [.int j] := RepL.ints (ns := [j]) r
theorem PostW.okOf {α : Type} {K : PySem.W.Frag} {mg : Str → Option Value} {E : XK} {S H : Hp} {r : Res α} {k : α → Hp → Hp → Prop} (h : PostW K mg E S H r k) (hx : ∀ c fs, r ≠ .ex c fs) : ∃ a, r = .ok a ∧ ∀ S' H', Step S H S' H' → k a S' H' := by
  cases r with
  | ok a => exact ⟨a, rfl, h⟩
  | ex c fs => exact absurd rfl (hx c fs)
  | er => exact h.elim
theorem ji_range1 {fs : Env → Res (List D)} {p : Pos} (ha : JA X E m [a] fs) (hm : X.mg "range" = none) (hg : Gl X "range" := by rfl) (hs : starEach [a] X.env = [(false, eval a X.env)] := by rfl) : JI X E m tg (.Call (.Name "range" p) [a] [] pos) (fR1 fs) := by
  refine ⟨⟨fun pins s σ H R I h => (pi_range1 hg hm ha.pa hs).run pins s σ H R I ?_⟩⟩
  obtain ⟨S, ρ, hm, hp⟩ := h
  refine ⟨S, ρ, hm, (PostW.bind hp).imp fun ds S1 H1 s1 k vs rv => ?_⟩
  obtain ⟨xs, e, k⟩ := PostW.okOf k fun _ _ => gRng1_ex
  obtain ⟨j, rfl, hk, rfl⟩ := gRng1_ok e
  obtain ⟨_, _, h3, h4⟩ := rngOk_ok hk
  exact ⟨j, rv.int1, h3, h4, k S1 H1 (Step.refl s1.sub) _ (walk_r 0 j.toNat)⟩
end
end Da
namespace Da
open PySem PySem.Spec L2
def chk (n : Nat) (f : List D → Res D) : List D → Res D := fun ds => if ds.length = n then f ds else .er
/-- what a def promises: it does to data what f does -/
def spD (K : PySem.W.Frag) (mg : Str → Option Value) (np : Nat) (md : Md) (f : List D → Res D) : Sp := fun vs H Q E => ∃ S ds, Same S H ∧ RepL K mg S vs ds ∧ Post K mg E S H md (chk np f ds) Q
def startE (n : Nat) (ds : List D) : Env := ds.map some ++ List.replicate (n - ds.length) none
/-- a body's run -/
def runF (n : Nat) (md : Md) (F : FS) (ds : List D) : Res D := match F (startE n ds) with
  | .ok (.rt d) => .ok d
  | .ok (.nx _) => if md = .sh then .ok .non else .er
  | .ok (.xc c fs _) => .ex c fs
  | _ => .er
abbrev msh (n : Nat) : Mds := List.replicate n .sh
theorem mdAt_msh {n i : Nat} : mdAt (msh n) i = .sh := by
  unfold mdAt
  rw [List.getD_eq_getElem?_getD, List.getElem?_replicate]
  split <;> rfl
theorem Post.chkd {K : PySem.W.Frag} {mg : Str → Option Value} {E : XK} {S H : Hp} {md : Md} {np : Nat} {f : List D → Res D} {ds : List D} {Q : VK} (h : Post K mg E S H md (chk np f ds) Q) : ds.length = np ∧ Post K mg E S H md (f ds) Q := by
  unfold chk at h
  split at h
  · rename_i e; exact ⟨e, h⟩
  · exact h.elim
section
variable {P : Program} {w : World} {K : PySem.W.Frag} {mg : Str → Option Value} {base : Heap}
theorem fn_ok {x qual : Str} {st : Stmt} {f : Addr} {fd : FuncData} {N ps : List Str} {k : Nat} {md : Md} {m' : Mds} {F : FS} (Fn : Fun K x qual st f fd) (Sc : FnScope N ps (defScope st)) (hnp : ps.length ≤ N.length)
    (h : ∀ (cdv : Value) (A : Around) (outer : List PySem.Env) (s : Shared) (H : Hp) (E : XK), Room k (A.deeper (PyProof.Rows.envOfC qual (defScope st) s.heap.objs.size f cdv)) →
      JSs (cxOf (L2.CX P w) P w K mg base N qual (defScope st) f cdv A outer s H E) (fun cls d _ H => E cls d H) ⟨[], [], md⟩ (msh N.length) m' (defBody st) F) :
    FnOk P w K mg base (L2.CX P w) (k + 1) f fd ps (spD K mg ps.length md (runF N.length md F)) := by
  refine Fn.okX Sc (fun vs H Q E hsp => ?_) (fun cdv A outer s H vs Q E hr hsp => ?_)
  · obtain ⟨S, ds, hs, rv, hp⟩ := hsp
    rw [rv.len]
    exact hp.chkd.1
  · obtain ⟨S, ds, hs, rv, hp⟩ := hsp
    obtain ⟨hl, hp⟩ := hp.chkd
    refine ⟨_, (h cdv A outer s H E hr).ps, S, H, startE N.length ds, ⟨S, fun _ => [], Step.refl hs, ⟨?_, fun i d e => ?_, fun i d e => List.nodup_nil, fun i j d e _ _ _ a ha => nomatch ha⟩, fun i d e a ha => nomatch ha⟩, ?_⟩
    · unfold startE L2.start
      rw [List.length_append, List.length_append, List.length_map, List.length_map, List.length_replicate, List.length_replicate, rv.len]
    · unfold startE at e
      by_cases hi : i < ds.length
      · rw [List.getElem?_append_left (by rw [List.length_map]; exact hi), List.getElem?_map, List.getElem?_eq_getElem hi] at e
        have e' : ds[i] = d := by injection e with e; injection e
        obtain ⟨v, ev, r⟩ := rv.get (List.getElem?_eq_getElem hi)
        refine ⟨v, ?_, ?_⟩
        · unfold L2.start
          rw [List.getElem?_append_left (by rw [List.length_map, rv.len]; exact hi), List.getElem?_map, ev]
          rfl
        · rw [mdAt_msh, ← e']
          exact ⟨r, rfl⟩
      · rw [List.getElem?_append_right (by rw [List.length_map]; omega), List.getElem?_replicate] at e
        split at e <;> cases e
    · unfold runF at hp
      cases ef : F (startE N.length ds) with
      | ok o =>
        rw [ef] at hp
        cases o with
        | nx ρ =>
          intro σ' H' ⟨S', F', st'⟩
          simp only at hp
          split at hp
          · rename_i hmd
            subst hmd
            exact hp .non S' H' [] st'.1 ⟨.non, rfl⟩ List.nodup_nil (fun a z => nomatch z)
          · exact hp.elim
        | rt d => exact fun v H' ⟨S', fp, s', o', n', f'⟩ => hp v S' H' fp s' o' n' f'
        | bk ρ => exact hp.elim
        | ct ρ => exact hp.elim
        | xc c fs ρ => exact fun σ' S' F' H' cls dd st' x' => hp S' H' cls dd st'.1 x'
      | ex c fs => rw [ef] at hp; exact hp.elim
      | er => rw [ef] at hp; exact hp.elim
end
section
variable {X : Cx} {E : WX} {m : Mds} {md : Md} {a b e : Expr} {es : List Expr} {fa fb : Env → Res D} {fs : Env → Res (List D)} {pos p : Pos} {x : Str} {k np : Nat} {f : Addr} {fd : FuncData} {ps : List Str} {g : List D → Res D}
/-- the def of this name keeps its promise -/
def Keeps (P : Program) (w : World) (K : PySem.W.Frag) (mg : Str → Option Value) (base : Heap) (x : Str) (k : Nat) (ps : List Str) (np : Nat) (md : Md) (g : List D → Res D) : Prop :=
  ∃ f fd, mg x = some (.ref f) ∧ PySem.W.keepIn K (.ref f) = true ∧ Binds K fd ps [] ∧ FnOk P w K mg base (L2.CX P w) k f fd ps (spD K mg np md g)
/-- the def of this name as it stands behind the top -/
def DefAt (K : PySem.W.Frag) (mg : Str → Option Value) (x qual : Str) (st : Stmt) (ps : List Str) : Prop := ∃ f fd, Fun K x qual st f fd ∧ Binds K fd ps [] ∧ mg x = some (.ref f)
theorem keeps_of {P : Program} {w : World} {K : PySem.W.Frag} {mg : Str → Option Value} {base : Heap} {x qual : Str} {st : Stmt} {ps N : List Str} {k : Nat} {md : Md} {F : FS} (dA : DefAt K mg x qual st ps) (Sc : FnScope N ps (defScope st)) (hnp : ps.length ≤ N.length)
    (h : ∀ (f : Addr) (cdv : Value) (A : Around) (outer : List PySem.Env) (s : Shared) (H : Hp) (E : XK), Room k (A.deeper (PyProof.Rows.envOfC qual (defScope st) s.heap.objs.size f cdv)) →
      JSs (cxOf (L2.CX P w) P w K mg base N qual (defScope st) f cdv A outer s H E) (fun cls d _ H => E cls d H) ⟨[], [], md⟩ (msh N.length) (msh N.length) (defBody st) F) : Keeps P w K mg base x (k + 1) ps ps.length md (runF N.length md F) := by
  obtain ⟨f, fd, Fn, bd, gl⟩ := dA
  exact ⟨f, fd, gl, Fn.kp, bd, fn_ok Fn Sc hnp (h f)⟩
/-- of what never gives anything -/
theorem keeps_er {P : Program} {w : World} {K : PySem.W.Frag} {mg : Str → Option Value} {base : Heap} {x qual : Str} {st : Stmt} {ps : List Str} {k np : Nat} {md : Md} (dA : DefAt K mg x qual st ps) : Keeps P w K mg base x k ps np md (fun _ => .er) := by
  obtain ⟨f, fd, Fn, bd, gl⟩ := dA
  have no : ∀ vs H Q E, spD K mg np md (fun _ => .er) vs H Q E → False := fun vs H Q E ⟨S, ds, hs, rv, hp⟩ => hp.chkd.2
  exact ⟨f, fd, gl, Fn.kp, bd, ⟨fun vs H Q E h => (no vs H Q E h).elim, fun A outer s H args us vs Q E hr he hb hv h => (no vs H Q E h).elim⟩⟩
theorem Keeps.mono {P : Program} {w : World} {K : PySem.W.Frag} {mg : Str → Option Value} {base : Heap} {x : Str} {ps : List Str} {k k' np : Nat} {md : Md} {g : List D → Res D} (G : Keeps P w K mg base x k ps np md g) (h : k ≤ k') : Keeps P w K mg base x k' ps np md g := by
  obtain ⟨f, fd, e1, e2, e3, G⟩ := G
  exact ⟨f, fd, e1, e2, e3, G.mono h⟩
theorem je_call (G : Keeps X.prog X.w X.K X.mg X.base x k ps np md g) (hr : Room k X.A) (tk : Takes X E)
    (ha : JA X E m (e :: es) fs) (hg : Gl X x := by rfl) (hdb : (x == ("__debug__" : Str)) = false := by decide) (he : starEach (e :: es) X.env = (false, eval e X.env) :: starEach es X.env := by rfl) (hpl : (backTo pos (starEach es X.env)).any (·.1) = false := by rfl) :
    JE X E m md (.Call (.Name x p) (e :: es) [] pos) (fOn (chk np g) fs) := by
  obtain ⟨f, fd, hm, hk, hb, G⟩ := G
  refine ⟨PEimp (pe_callS G hr hg hm hk hb (fun σ => passAt tk σ) ha.pa hdb he hpl) fun σ H Q h => ?_⟩
  obtain ⟨S, ρ, hm, hp⟩ := h
  exact ⟨S, ρ, hm, (Post.bind hp).imp fun ds S1 H1 s1 h1 vs rs => ⟨S1, ds, s1.sub, rs, h1⟩⟩
/-- an own new list that is not kept as one's own -/
theorem je_share (h : JE X E m md e fa) : JE X E m .sh e fa := by
  refine ⟨PEimp h.pe fun σ H Q q => ?_⟩
  obtain ⟨S, ρ, hm, hp⟩ := q
  refine ⟨S, ρ, hm, ?_⟩
  cases ef : fa ρ with
  | ok d =>
    rw [ef] at hp
    intro v S1 H1 fp s1 o hn hf
    let A : Addr → Prop := fun a => a ∈ fp
    have ho : ∀ a, A a → S1 a = none := fun a ha => (o.out ha).1
    refine hp v (take S1 H1 A) H1 [] ⟨s1.hh, s1.ss.trans (take_same s1.sub ho), take_sub s1.sub, fun a x => ?_⟩ ⟨o.shared s1.sub ho fun a ha => ha, rfl⟩ List.nodup_nil (fun a z => nomatch z)
    by_cases z : A a
    · exact .inr (hf a z)
    · rw [take_out z] at x
      exact s1.new a x
  | ex c fs => rw [ef] at hp; exact hp
  | er => rw [ef] at hp; exact hp.elim
end
section
variable {K : PySem.W.Frag} {mg : Str → Option Value}
theorem repl1 {S : Hp} {vs : List V} {d : D} (r : RepL K mg S vs [d]) : ∃ v, vs = [v] ∧ Rep K mg S v d := by
  match vs, r with
  | [], r => have := r.len; simp at this
  | [v], r => exact ⟨v, rfl, r.head⟩
  | _ :: _ :: _, r => have := r.len; simp at this
theorem repl2 {S : Hp} {vs : List V} {d e : D} (r : RepL K mg S vs [d, e]) : ∃ v w, vs = [v, w] ∧ Rep K mg S v d ∧ Rep K mg S w e := by
  match vs, r with
  | [], r => have := r.len; simp at this
  | [v], r => have := r.len; simp at this
  | [v, w], r => exact ⟨v, w, rfl, r.head, r.tail.head⟩
  | _ :: _ :: _ :: _, r => have := r.len; simp at this
/-- a rule of one argument -/
def on1 (g : D → Res D) : List D → Res D
  | [d] => g d
  | _ => .er
def on2 (g : D → D → Res D) : List D → Res D
  | [d, e] => g d e
  | _ => .er
theorem calld1 {md : Md} {r : List V → Hp → VK → Prop} {g : D → Res D} (h : ∀ (E : XK) (S H : Hp) (x : V) (d : D) (Q : VK), Same S H → Rep K mg S x d → Post K mg E S H md (g d) Q → r [x] H Q) : CallD K mg md r (on1 g) := by
  intro E S H xs ds Q hs rv hp
  match ds with
  | [] => exact hp.elim
  | [d] =>
    obtain ⟨v, rfl, rd⟩ := repl1 rv
    exact h E S H v d Q hs rd hp
  | _ :: _ :: _ => exact hp.elim
theorem calld2 {md : Md} {r : List V → Hp → VK → Prop} {g : D → D → Res D} (h : ∀ (E : XK) (S H : Hp) (x y : V) (d e : D) (Q : VK), Same S H → Rep K mg S x d → Rep K mg S y e → Post K mg E S H md (g d e) Q → r [x, y] H Q) : CallD K mg md r (on2 g) := by
  intro E S H xs ds Q hs rv hp
  match ds with
  | [] => exact hp.elim
  | [d] => exact hp.elim
  | [d, e] =>
    obtain ⟨v, w, rfl, rd, re⟩ := repl2 rv
    exact h E S H v w d e Q hs rd re hp
  | _ :: _ :: _ :: _ => exact hp.elim
def dLen : D → Res D
  | .lst xs => .ok (.int xs.length)
  | .frl xs => .ok (.int xs.length)
  | .tup xs => .ok (.int xs.length)
  | .str z => if szOk z.length = true then .ok (.int z.length) else .er
  | _ => .er
theorem calld_len : CallD K mg .sh (fun xs H Q => ∃ x n, xs = [x] ∧ LenV K x H n ∧ Q (.int n) H) (on1 dLen) := calld1 fun E S H x d Q hs rx hp => by
  cases d with
  | lst ds =>
    obtain ⟨a, vs, rfl, ha, rv⟩ := rx.of_lst
    exact ⟨_, vs.length, rfl, .inl ⟨_, .inl (.inl (hs _ _ ha)), rfl⟩, by rw [rv.len]; exact Post.val hp hs (.int _)⟩
  | frl ds =>
    obtain ⟨a, vs, rfl, ha, rv⟩ := rx.of_frl
    exact ⟨_, vs.length, rfl, .inl ⟨_, same_l hs ha, rfl⟩, by rw [rv.len]; exact Post.val hp hs (.int _)⟩
  | tup ds =>
    obtain ⟨a, vs, rfl, ha, rv⟩ := rx.of_tup
    exact ⟨_, vs.length, rfl, .inr ⟨_, same_t hs ha, rfl⟩, by rw [rv.len]; exact Post.val hp hs (.int _)⟩
  | str z =>
    obtain ⟨hz, hp⟩ := Post.of_if hp
    cases rx
    exact ⟨_, z.length, rfl, ⟨szOk_ok hz, rfl⟩, hp.val hs (.int _)⟩
  | _ => exact hp.elim
def dInt : D → Res D
  | .int i => .ok (.int i)
  | .bl b => .ok (.int (if b then 1 else 0))
  | _ => .er
def dAbs : D → Res D
  | .int i => .ok (.int (if i < 0 then -i else i))
  | _ => .er
def dMax2 : D → D → Res D
  | .int i, .int j => .ok (.int (if j > i then j else i))
  | _, _ => .er
def dMin2 : D → D → Res D
  | .int i, .int j => .ok (.int (if j < i then j else i))
  | _, _ => .er
end
section
variable {X : Cx} {E : WX} {m : Mds} {md : Md} {a b e : Expr} {es : List Expr} {fs : Env → Res (List D)} {pos p : Pos}
theorem je_len (hm : X.mg "len" = none) (ha : JA X E m [e] fs) (hg : Gl X "len" := by rfl) (he : starEach [e] X.env = (false, eval e X.env) :: starEach [] X.env := by rfl) : JE X E m .sh (.Call (.Name "len" p) [e] [] pos) (fOn (on1 dLen) fs) :=
  je_callB call_len calld_len hm ha hg boot_len (by decide) (by decide) he (by rfl)
theorem je_int_ (hm : X.mg "int" = none) (ha : JA X E m [e] fs) (hg : Gl X "int" := by rfl) (he : starEach [e] X.env = (false, eval e X.env) :: starEach [] X.env := by rfl) : JE X E m .sh (.Call (.Name "int" p) [e] [] pos) (fOn (on1 dInt) fs) :=
  je_callTy call_int1 (calld1 fun E S H x d Q hs rx hp => by
    cases d with
    | int i => cases rx; exact .inl ⟨i, rfl, Post.val hp hs (.int _)⟩
    | bl i => cases rx; exact .inr ⟨i, rfl, Post.val hp hs (.int _)⟩
    | _ => exact hp.elim) hm ha hg (by decide +kernel) (by decide) (by decide) he (by rfl)
theorem je_max2 (hm : X.mg "max" = none) (ha : JA X E m [a, b] fs) (hc : X.calm = true := by rfl) (hg : Gl X "max" := by rfl) (he : starEach [a, b] X.env = (false, eval a X.env) :: starEach [b] X.env := by rfl) (hpl : (backTo pos (starEach [b] X.env)).any (·.1) = false := by rfl) : JE X E m .sh (.Call (.Name "max" p) [a, b] [] pos) (fOn (on2 dMax2) fs) :=
  je_callB (call_max2 hc) (calld2 fun E S H x y d e Q hs rx ry hp => by
    cases d with
    | int i =>
      cases e with
      | int j => cases rx; cases ry; exact ⟨i, j, rfl, Post.val hp hs (.int _)⟩
      | _ => exact hp.elim
    | _ => exact hp.elim) hm ha hg (by decide +kernel) (by decide) (by decide) he hpl
end
end Da
namespace Da
open PySem PySem.Spec L2
mutual
def D.py : D → Option PyData
  | .non => some .none
  | .bl b => some (.bool b)
  | .int i => some (.int i)
  | .str x => some (.str x)
  | .lst xs => match D.pys xs with
    | some ys => some (.list ys)
    | none => none
  | .tup xs => match D.pys xs with
    | some ys => some (.tuple ys)
    | none => none
  | _ => none
def D.pys : List D → Option (List PyData)
  | [] => some []
  | x :: xs => match D.py x, D.pys xs with
    | some y, some ys => some (y :: ys)
    | _, _ => none
end
section
variable {K : PySem.W.Frag} {mg : Str → Option Value} {S : Hp}
mutual
theorem dp_of : ∀ (d : D) (v : V) (y : PyData), Rep K mg S v d → D.py d = some y → Dp K S v y
  | .non, v, y, h, e => by cases h; cases e; exact .non
  | .bl b, v, y, h, e => by cases h; cases e; exact .bl b
  | .int i, v, y, h, e => by cases h; cases e; exact .int i
  | .str x, v, y, h, e => by cases h; cases e; exact .str x
  | .lst xs, v, y, h, e => by
    unfold D.py at e
    split at e
    · rename_i ys ey
      cases e
      obtain ⟨a, vs, rfl, ha, r⟩ := h.of_lst
      exact .lst (.inl (.inl ha)) (dps_of xs vs ys r ey)
    · cases e
  | .tup xs, v, y, h, e => by
    unfold D.py at e
    split at e
    · rename_i ys ey
      cases e
      obtain ⟨a, vs, rfl, ha, r⟩ := h.of_tup
      exact .tup ha (dps_of xs vs ys r ey)
    · cases e
  | .frl xs, v, y, h, e => by simp [D.py] at e
  | .dic ks vs, v, y, h, e => by simp [D.py] at e
  | .dit ks vs, v, y, h, e => by simp [D.py] at e
  | .obj c ns vs, v, y, h, e => by simp [D.py] at e
theorem dps_of : ∀ (ds : List D) (vs : List V) (ys : List PyData), RepL K mg S vs ds → D.pys ds = some ys → DpAll K S vs ys
  | [], vs, ys, r, e => by
    cases e
    rw [r.nil_iff.mpr rfl]
    exact .nil
  | d :: ds, vs, ys, r, e => by
    unfold D.pys at e
    split at e
    · rename_i y ys' e1 e2
      cases e
      match vs, r with
      | [], r => have := r.len; simp at this
      | v :: vs, r => exact .cons (dp_of d v y r.head e1) (dps_of ds vs ys' r.tail e2)
    · cases e
end
theorem dp_mono {H : Hp} (h : Same S H) : ∀ {v : V} {y : PyData}, Dp K S v y → Dp K H v y := fun {v y} x => Dp.rec (motive_1 := fun v y _ => Dp K H v y) (motive_2 := fun vs ys _ => DpAll K H vs ys)
  .non .bl .int .str (fun a _ ih => .lst (same_l h a) ih) (fun a _ ih => .tup (same_t h a) ih) .nil (fun _ _ a b => .cons a b) x
end
/-- are they equal -/
def eqD (x y : D) : Res Bool := match D.py x, D.py y with
  | some a, some b => if (SeqAt.shaped a && SeqAt.shaped b) = true then .ok (PyData.eqv a b) else .er
  | _, _ => .er
def dEq (x y : D) : Res D := (eqD x y).bind fun b => .ok (.bl b)
def dNe (x y : D) : Res D := (eqD x y).bind fun b => .ok (.bl (!b))
section
variable {K : PySem.W.Frag} {mg : Str → Option Value} {E : XK} {S H : Hp}
theorem eqD_ok {x y : D} {r : Bool → Res D} {Q : VK} (h : Post K mg E S H .sh ((eqD x y).bind r) Q) : ∃ a b, D.py x = some a ∧ D.py y = some b ∧ SeqAt.shaped a = true ∧ SeqAt.shaped b = true ∧ Post K mg E S H .sh (r (PyData.eqv a b)) Q := by
  unfold eqD at h
  split at h
  · rename_i a b ea eb
    split at h
    · rename_i hs
      have hs := Bool.and_eq_true_iff.mp hs
      exact ⟨a, b, ea, eb, hs.1, hs.2, h⟩
    · exact h.elim
  · exact h.elim
theorem opd_eq : OpD K mg .sh (rEqD K) dEq := by
  intro E S H x y dx dy Q hs rx ry h
  obtain ⟨a, b, ea, eb, sa, sb, h⟩ := eqD_ok h
  exact ⟨a, b, dp_mono hs (dp_of dx x a rx ea), dp_mono hs (dp_of dy y b ry eb), sa, sb, Post.val h hs (.bl _)⟩
theorem opd_ne : OpD K mg .sh (rNeD K) dNe := by
  intro E S H x y dx dy Q hs rx ry h
  obtain ⟨a, b, ea, eb, sa, sb, h⟩ := eqD_ok h
  exact ⟨a, b, dp_mono hs (dp_of dx x a rx ea), dp_mono hs (dp_of dy y b ry eb), sa, sb, Post.val h hs (.bl _)⟩
end
section
variable {K : PySem.W.Frag} {mg : Str → Option Value}
def dIsN : D → Res D
  | .non => .ok (.bl true)
  | _ => .ok (.bl false)
def dIsB (c : Bool) : D → Res D
  | .bl b => .ok (.bl (b == c))
  | _ => .ok (.bl false)
def dNot1 (g : D → Res D) : D → Res D := fun d => (g d).bind fun b => match b with
  | .bl b => .ok (.bl (!b))
  | _ => .er
theorem non_iff {S : Hp} {v : V} {d : D} (r : Rep K mg S v d) : dIsN d = .ok (.bl (decide (v = .non))) := by
  cases r <;> rfl
theorem bl_iff {S : Hp} {v : V} {d : D} {c : Bool} (r : Rep K mg S v d) : dIsB c d = .ok (.bl (decide (v = .bl c))) := by
  cases r with
  | bl b => cases b <;> cases c <;> rfl
  | _ => rfl
end
section
variable {X : Cx}
def rIsB1 (c : Bool) : R2 := fun x y H Q => y = .bl c ∧ Q (.bl (decide (x = .bl c))) H
theorem plainB {x : V} {v : Value} {c : Bool} (r : RelV x v) : plainIs v (.bool c) = true ∧ (decide (x = .bl c) = (v == .bool c)) := by
  cases x with
  | non => cases r; exact ⟨rfl, rfl⟩
  | bl b => cases r; cases b <;> cases c <;> exact ⟨rfl, rfl⟩
  | int i => obtain ⟨t, rfl⟩ := r; exact ⟨rfl, rfl⟩
  | str i => obtain ⟨t, rfl⟩ := r; exact ⟨rfl, rfl⟩
  | byt i => obtain ⟨t, rfl⟩ := r; exact ⟨rfl, rfl⟩
  | flt i => obtain ⟨t, rfl⟩ := r; exact ⟨rfl, rfl⟩
  | ref a => cases r; exact ⟨rfl, rfl⟩
  | ty n => cases r; exact ⟨rfl, rfl⟩
theorem op_isB1 (c : Bool) : OpR X (compareOp .Is) (rIsB1 c) := fun pins s σ H x y v u Q I rx ry h => by
  obtain ⟨rfl, q⟩ := h
  cases ry
  obtain ⟨h1, h2⟩ := plainB (c := c) rx
  exact wpAny_is_plain h1 ⟨.bl _, H, I, by rw [← h2]; rfl, q⟩
end
section
variable {X : Cx} {E : WX} {m : Mds} {md : Md} {a b e : Expr} {es : List Expr} {fa fb : Env → Res D} {fs : Env → Res (List D)} {pos p pc : Pos} {k j : Nat}
/-- room for what asks no call's depth -/
def RmU (A : Around) : Prop := A.units + 200 < cLine
theorem _root_.L2.Room.u {A : Around} {k : Nat} (hr : Room k A) : RmU A := by have := hr.un; unfold RmU; omega
theorem hu64 {A : Around} (hr : RmU A) : A.units + 64 < cLine := by unfold RmU at hr; omega
theorem je_eq (hr : RmU X.A) (ha : JE X E m .sh a fa) (hb : JE X E m .sh b fb) : JE X E m .sh (.Compare a [.Eq] [b] pos) (f2 dEq fa fb) := je_cmp (op_eqD (hu64 hr)) opd_eq ha hb (nomark _)
theorem jt_eq (hr : RmU X.A) (ha : JE X E m .sh a fa) (hb : JE X E m .sh b fb) : JT X E m (.Compare a [.Eq] [b] pos) (fB (f2 dEq fa fb)) := jt_cmp (op_eqD (hu64 hr)) opd_eq ha hb (nomark _)
theorem jt_ne (hr : RmU X.A) (ha : JE X E m .sh a fa) (hb : JE X E m .sh b fb) : JT X E m (.Compare a [.NotEq] [b] pos) (fB (f2 dNe fa fb)) := jt_cmp (op_neD (hu64 hr)) opd_ne ha hb (nomark _)
theorem un_tE {K : PySem.W.Frag} {mg : Str → Option Value} {r : R2} {g : D → Res D} {c : V} {d0 : D} (hr : ∀ (E : XK) (S H : Hp) (x : V) (d : D) (Q : VK), Same S H → Rep K mg S x d → Post K mg E S H .sh (g d) Q → r x c H Q) {σ : L2.St} {H : Hp} {Q : VK}
    (h : tE K mg E m .sh (f1 g fa) σ H Q) : tOp r (tE K mg E m .sh fa) (tC c) σ H Q := by
  obtain ⟨S, ρ, hm, hp⟩ := h
  exact ⟨S, ρ, hm, (Post.bind hp).post fun dx v S1 H1 s1 r1 h1 => hr _ S1 H1 v dx Q s1.sub r1 h1⟩
theorem isN_ok {K : PySem.W.Frag} {mg : Str → Option Value} (E : XK) (S H : Hp) (x : V) (d : D) (Q : VK) (hs : Same S H) (r : Rep K mg S x d) (h : Post K mg E S H .sh (dIsN d) Q) : Q (.bl (decide (x = .non))) H := by
  rw [non_iff r] at h
  exact h.val hs (.bl _)
theorem notN_ok {K : PySem.W.Frag} {mg : Str → Option Value} (E : XK) (S H : Hp) (x : V) (d : D) (Q : VK) (hs : Same S H) (r : Rep K mg S x d) (h : Post K mg E S H .sh (dNot1 dIsN d) Q) : Q (.bl (!decide (x = .non))) H := by
  unfold dNot1 at h
  rw [non_iff r] at h
  exact Post.val h hs (.bl _)
theorem isB_ok {K : PySem.W.Frag} {mg : Str → Option Value} {c : Bool} (E : XK) (S H : Hp) (x : V) (d : D) (Q : VK) (hs : Same S H) (r : Rep K mg S x d) (h : Post K mg E S H .sh (dIsB c d) Q) : Q (.bl (decide (x = .bl c))) H := by
  rw [bl_iff r] at h
  exact h.val hs (.bl _)
theorem tT_of {K : PySem.W.Frag} {mg : Str → Option Value} {f : Env → Res D} {t : TE} (ht : ∀ σ H Q, tE K mg E m .sh f σ H Q → t σ H Q) {σ : L2.St} {H : Hp} {Q : Bool → Hp → Prop} (h : tT K mg E m (fB f) σ H Q) : tTest t σ H Q := by
  obtain ⟨S, ρ, hm, hp⟩ := h
  refine ht σ H _ ⟨S, ρ, hm, (PostW.bind hp).post fun d v S1 H1 s1 r k => ?_⟩
  cases d with
  | bl c => cases r; exact ⟨c, rfl, k S1 H1 (Step.refl s1.sub)⟩
  | _ => exact k.elim
theorem je_isB {c : Bool} (ha : JE X E m .sh a fa) : JE X E m .sh (.Compare a [.Is] [.Constant (.bool c) j pc] pos) (f1 (dIsB c) fa) := ⟨PEimp (pe_cmpR (op_isB1 c) ha.pe pe_bl (nomark _)) fun σ H Q h => un_tE (d0 := .non) (fun E S H x d Q hs r h => ⟨rfl, isB_ok E S H x d Q hs r h⟩) h⟩
theorem jt_isN (ha : JE X E m .sh a fa) : JT X E m (.Compare a [.Is] [.Constant .none j pc] pos) (fB (f1 dIsN fa)) := ⟨PTimp (pt_cmpR op_isN ha.pe pe_non (nomark _)) fun σ H Q h => tT_of (fun σ H Q h => un_tE (d0 := .non) (fun E S H x d Q hs r h => ⟨rfl, isN_ok E S H x d Q hs r h⟩) h) h⟩
theorem jt_notN (ha : JE X E m .sh a fa) : JT X E m (.Compare a [.IsNot] [.Constant .none j pc] pos) (fB (f1 (dNot1 dIsN) fa)) := ⟨PTimp (pt_cmpR op_notN ha.pe pe_non (nomark _)) fun σ H Q h => tT_of (fun σ H Q h => un_tE (d0 := .non) (fun E S H x d Q hs r h => ⟨rfl, notN_ok E S H x d Q hs r h⟩) h) h⟩
end
def tyNm : D → Option String
  | .non => some "NoneType"
  | .bl _ => some "bool"
  | .int _ => some "int"
  | .str _ => some "str"
  | .lst _ => some "list"
  | .frl _ => some "list"
  | .tup _ => some "tuple"
  | .dic _ _ => some "dict"
  | .dit _ _ => some "dict"
  | .obj _ _ _ => none
  | .exc _ _ _ => none
def isTy (T : String) (d : D) : Res Bool := match tyNm d with
  | some a => (match kitB a T with
    | some b => .ok b
    | none => .er)
  | none => .er
def dIsi (T : String) (d : D) : Res D := (isTy T d).bind fun b => .ok (.bl b)
def dIsi2 (T U : String) (d : D) : Res D := (isTy T d).bind fun b => if b = true then .ok (.bl true) else (isTy U d).bind fun c => .ok (.bl c)
section
variable {K : PySem.W.Frag} {mg : Str → Option Value}
theorem tyx_of {S H : Hp} {v : V} {d : D} {a : String} (hs : Same S H) (r : Rep K mg S v d) (h : tyNm d = some a) : TyX K H v (.type a) := by
  cases r with
  | non => cases h; exact .base .non
  | bl b => cases h; exact .base (.bl b)
  | int b => cases h; exact .base (.int b)
  | str b => cases h; exact .base (.str b)
  | lst e => cases h; exact .base (.lst (hs _ _ e))
  | frl e =>
    cases h
    rcases e with (e | ⟨o, e⟩) | ⟨o, its, n, e, c, _⟩
    · exact .base (.lst (hs _ _ e))
    · exact .base (.frz (hs _ _ e))
    · exact .kList e c
  | tup e =>
    cases h
    exact .base (.tup (hs _ _ e))
  | dic e =>
    cases h
    rcases e with e | ⟨o, e⟩
    · exact .base (.dK (hs _ _ e))
    · exact .fDict (hs _ _ e)
  | dit e => cases h; exact .base (.dT (hs _ _ e))
  | exc => cases h
  | obj e => cases h
theorem isTy_ok {S H : Hp} {v : V} {d : D} {T : String} {b : Bool} (hs : Same S H) (r : Rep K mg S v d) (h : isTy T d = .ok b) : ∃ t, TyX K H v t ∧ PySem.W.kitOne K t (.type T) = some b := by
  unfold isTy at h
  split at h
  · rename_i a ea
    split at h
    · rename_i c ec
      injection h with h
      subst h
      exact ⟨.type a, tyx_of hs r ea, kit_ty ec⟩
    · cases h
  · cases h
end
section
variable {X : Cx} {E : WX} {m : Mds} {md : Md} {a b e : Expr} {es : List Expr} {fa fb : Env → Res D} {fs : Env → Res (List D)} {pos p p1 p2 p3 : Pos} {x1 : Nat}
theorem isTy_post {K : PySem.W.Frag} {mg : Str → Option Value} {E : XK} {S H : Hp} {T : String} {d : D} {r : Bool → Res D} {Q : VK} (h : Post K mg E S H .sh ((isTy T d).bind r) Q) : ∃ b, isTy T d = .ok b ∧ Post K mg E S H .sh (r b) Q := by
  cases e : isTy T d with
  | ok b => rw [e] at h; exact ⟨b, rfl, h⟩
  | ex c fs =>
    exfalso
    unfold isTy at e
    split at e
    · split at e <;> cases e
    · cases e
  | er => rw [e] at h; exact h.elim
theorem je_isi (T : String) {nT : Str} (hm : X.mg "isinstance" = none) (hT : X.mg nT = none) (ha : JE X E m .sh a fa) (hv : bootBuiltins nT = some (.type T) := by decide +kernel) (hg : Gl X "isinstance" := by rfl) (hgT : Gl X nT := by rfl) (hn : nT ≠ "__name__" := by decide) (hdb : (nT == ("__debug__" : Str)) = false := by decide)
    (he : starEach [a, .Name nT p2] X.env = (false, eval a X.env) :: starEach [.Name nT p2] X.env := by rfl) (he2 : starEach [.Name nT p2] X.env = (false, eval (.Name nT p2) X.env) :: starEach [] X.env := by rfl) (hpl : (backTo pos (starEach [.Name nT p2] X.env)).any (·.1) = false := by rfl) :
    JE X E m .sh (.Call (.Name "isinstance" p) [a, .Name nT p2] [] pos) (f1 (dIsi T) fa) := by
  refine ⟨PEimp (pe_callB call_isi hg hm (by decide +kernel) (pa_cons ha.pe (pa_cons (pe_bltn (v := .ty T) hgT hT hv rfl hn hdb) pa_nil he2) he) (by decide) (by decide) he hpl) fun σ H Q h => ?_⟩
  obtain ⟨S, ρ, hm, hp⟩ := h
  refine ⟨S, ρ, hm, (Post.bind hp).post fun d v S1 H1 s1 r k => ?_⟩
  obtain ⟨bb, eb, k⟩ := isTy_post k
  obtain ⟨t, ty, kt⟩ := isTy_ok s1.sub r eb
  exact ⟨v, .ty T, t, .type T, bb, rfl, .ty T, ty, kt, k.val s1.sub (.bl _)⟩
theorem je_isi2 (T U : String) {nT nU : Str} (hm : X.mg "isinstance" = none) (hT : X.mg nT = none) (hU : X.mg nU = none) (ha : JE X E m .sh a fa) (hv : bootBuiltins nT = some (.type T) := by decide +kernel) (hvU : bootBuiltins nU = some (.type U) := by decide +kernel) (hg : Gl X "isinstance" := by rfl)
    (hgT : Gl X nT := by rfl) (hgU : Gl X nU := by rfl) (hn : nT ≠ "__name__" := by decide) (hdb : (nT == ("__debug__" : Str)) = false := by decide) (hnU : nU ≠ "__name__" := by decide) (hdbU : (nU == ("__debug__" : Str)) = false := by decide)
    (he : starEach [a, .Tuple [.Name nT p2, .Name nU p3] x1 p1] X.env = (false, eval a X.env) :: starEach [.Tuple [.Name nT p2, .Name nU p3] x1 p1] X.env := by rfl)
    (he2 : starEach [.Tuple [.Name nT p2, .Name nU p3] x1 p1] X.env = (false, eval (.Tuple [.Name nT p2, .Name nU p3] x1 p1) X.env) :: starEach [] X.env := by rfl) (hpl : (backTo pos (starEach [.Tuple [.Name nT p2, .Name nU p3] x1 p1] X.env)).any (·.1) = false := by rfl)
    (ht1 : starEach [.Name nT p2, .Name nU p3] X.env = (false, eval (.Name nT p2) X.env) :: starEach [.Name nU p3] X.env := by rfl) (ht2 : starEach [.Name nU p3] X.env = (false, eval (.Name nU p3) X.env) :: starEach [] X.env := by rfl) :
    JE X E m .sh (.Call (.Name "isinstance" p) [a, .Tuple [.Name nT p2, .Name nU p3] x1 p1] [] pos) (f1 (dIsi2 T U) fa) := by
  refine ⟨PEimp (pe_callB call_isiT hg hm (by decide +kernel) (pa_cons ha.pe (pa_cons (pe_tup (pa_cons (pe_bltn (v := .ty T) hgT hT hv rfl hn hdb) (pa_cons (pe_bltn (v := .ty U) hgU hU hvU rfl hnU hdbU) pa_nil ht2) ht1)) pa_nil he2) he) (by decide) (by decide) he hpl) fun σ H Q h => ?_⟩
  obtain ⟨S, ρ, hm, hp⟩ := h
  refine ⟨S, ρ, hm, (Post.bind hp).post fun d v S1 H1 s1 r k => ⟨by show 2 ≤ sizeLine; decide, fun tp ntp => ?_⟩⟩
  obtain ⟨bb, eb, k⟩ := isTy_post k
  have s2 := Step.laid (o := .tup [V.ty T, V.ty U]) s1.sub ntp
  obtain ⟨t, ty, kt⟩ := isTy_ok (s1.sub.trans s2.hh) r eb
  cases bb with
  | true => exact ⟨v, tp, [.ty T, .ty U], t, [.type T, .type U], true, rfl, upd_same, .cons (.ty T) (.cons (.ty U) .nil), ty, kitAny_cons kt (fun z => nomatch z) (fun _ => rfl), (Post.step s2 k).val s2.sub (.bl _)⟩
  | false =>
    obtain ⟨cc, ec, k⟩ := isTy_post k
    have e' : tyNm d = tyNm d := rfl
    unfold isTy at eb ec
    split at eb
    · rename_i a' ea
      rw [ea] at ec
      have ec : (match kitB a' U with
        | some b => Res.ok b
        | none => .er) = .ok cc := ec
      split at eb
      · rename_i b1 k1
        split at ec
        · rename_i b2 k2
          cases eb; cases ec
          have ty' := tyx_of (s1.sub.trans s2.hh) r ea
          exact ⟨v, tp, [.ty T, .ty U], .type a', [.type T, .type U], _, rfl, upd_same, .cons (.ty T) (.cons (.ty U) .nil), ty', kitAny_cons (kit_ty k1) (fun _ => kitAny_cons (kit_ty k2) (fun h => by subst h; exact kitAny_nil) (fun h => h)) (fun z => nomatch z), (Post.step s2 k).val s2.sub (.bl _)⟩
        · cases ec
      · cases eb
    · cases eb
end
def isSc : D → Bool
  | .non => true
  | .bl _ => true
  | .int _ => true
  | .str _ => true
  | _ => false
def fSc (f : Env → Res D) : Env → Res D := fun ρ => match f ρ with
  | .ok d => if isSc d = true then .ok d else .er
  | _ => .er
def fNx {α : Type} (f : Env → Res α) : Env → Res α := fun ρ => match f ρ with
  | .ok d => .ok d
  | _ => .er
section
variable {K : PySem.W.Frag} {mg : Str → Option Value} {m m1 : Mds} {S H : Hp} {σ : L2.St} {ρ : Env}
/-- all slots as shared ones -/
theorem EnvM.peek (h : EnvM K mg m S H σ ρ) (w : Weak m m1) : ∃ S', Same S S' ∧ EnvM K mg m1 S' H σ ρ := by
  obtain ⟨hs, F, e⟩ := h
  have st : StF K mg m (fun _ => none) (fun _ => none) S F σ ρ H := ⟨⟨(fun a o z => nomatch z), (fun a o z => nomatch z), hs, (fun a _ => .inr rfl)⟩, e, fun i d _ a _ => rfl⟩
  obtain ⟨S', F', st', ss⟩ := st.weak w
  exact ⟨S', ss, st'.envM⟩
theorem Rep.sc {S S' : Hp} {v : V} {d : D} (h : Rep K mg S v d) (hd : isSc d = true) : Rep K mg S' v d := by
  cases h with
  | non => exact .non
  | bl b => exact .bl b
  | int b => exact .int b
  | str b => exact .str b
  | _ => cases hd
end
section
variable {X : Cx} {E : WX} {m m1 : Mds} {md : Md} {a b e : Expr} {es : List Expr} {f fa fb : Env → Res D} {g : Env → Res Bool} {pos p : Pos} {x : Str}
theorem je_borrow (h : JE X E m1 .sh e f) (w : Weak m m1 := by first | exact Weak.of (by decide) | exact weak_sh _ | (repeat (first | exact Weak.refl _ | exact weak_sh _ | apply Weak.cons | apply Weak.consSh))) : JE X E m .sh e (fSc f) := by
  refine ⟨PEimp h.pe fun σ H Q q => ?_⟩
  obtain ⟨S, ρ, hm, hp⟩ := q
  obtain ⟨S', ss, hm'⟩ := hm.peek w
  refine ⟨S', ρ, hm', ?_⟩
  unfold fSc at hp
  split at hp
  · rename_i d ed
    obtain ⟨hd, hp⟩ := Post.of_if hp
    rw [ed]
    intro v S1 H1 fp s1 o _ _
    exact hp v S H1 [] ⟨s1.hh, Same.refl _, hm.1.trans s1.hh, fun _ x => .inl x⟩ ⟨o.1.sc hd, rfl⟩ List.nodup_nil (fun a z => nomatch z)
  · exact hp.elim
theorem jt_borrow (h : JT X E m1 e g) (w : Weak m m1 := by first | exact Weak.of (by decide) | exact weak_sh _ | (repeat (first | exact Weak.refl _ | exact weak_sh _ | apply Weak.cons | apply Weak.consSh))) : JT X E m e (fNx g) := by
  refine ⟨PTimp h.pt fun σ H Q q => ?_⟩
  obtain ⟨S, ρ, hm, hp⟩ := q
  obtain ⟨S', ss, hm'⟩ := hm.peek w
  refine ⟨S', ρ, hm', ?_⟩
  unfold fNx at hp
  split at hp
  · rename_i d ed
    rw [ed]
    intro S1 H1 s1
    exact hp S H1 ⟨s1.hh, Same.refl _, hm.1.trans s1.hh, fun _ x => .inl x⟩
  · exact hp.elim
/-- an item of an own list: shared data -/
theorem je_itemO (i : Nat) (hb : JE X E m .sh b fb) (hmd : IsOw (mdAt m i) := by first | exact .inl rfl | exact .inr ⟨_, rfl⟩) (hN : X.N[i]? = some x := by rfl) (hv : Vis X.env.scope x := by first | exact Or.inl rfl | exact Or.inr (Or.inl rfl) | exact Or.inr (Or.inr rfl)) (hd : (x == ("__debug__" : Str)) = false := by decide)
    (hcd : (x == ("__classdict__" : Str)) = false := by decide) (hs : PlainIx b := by intro _ _; rfl) : JE X E m .sh (.Subscript (.Name x p) b pos) (f2 dIx (fV i) fb) := by
  refine ⟨PEimp (pe_ix ix_seq (pe_var hN hv hd hcd) hb.pe hs) fun σ H Q h => ?_⟩
  obtain ⟨S, ρ, hm, hp⟩ := h
  obtain ⟨hsub, F, e⟩ := id hm
  unfold f2 fV at hp
  split at hp
  · rename_i d ed
    obtain ⟨v, e1, o⟩ := e.at_ i d ed
    obtain ⟨q, vs, ds, rfl, rfl, e3, e4, e5, e6⟩ : ∃ q vs ds, v = .ref q ∧ d = .lst ds ∧ F i = [q] ∧ S q = none ∧ H q = some (.lst vs) ∧ RepL X.K X.mg S vs ds := by
      rcases hmd with hmd | ⟨q0, hmd⟩
      · rw [hmd] at o
        exact o
      · rw [hmd] at o
        exact o.2
    have hp : Post X.K X.mg (WE E σ) S H .sh ((fb ρ).bind fun y => dIx (.lst ds) y) Q := hp
    refine ⟨_, e1, S, ρ, hm, (Post.bind hp).post fun dy y S1 H1 s1 r k => ?_⟩
    cases dy with
    | int j =>
      cases r
      simp only [dIx] at k
      split at k
      · rename_i d' ed'
        obtain ⟨v', ev, rv⟩ := e6.atI ed'
        exact .inl ⟨q, vs, j, v', rfl, rfl, .inl (.inl (s1.hh _ _ e5)), ev, k.val s1.sub (rv.mono s1.ss)⟩
      · exact k.elim
    | _ => exact k.elim
  · exact hp.elim
end
end Da
namespace Da
open PySem PySem.Spec L2
def trD : D → Res Bool
  | .non => .ok false
  | .bl b => .ok b
  | .int i => .ok (i != 0)
  | .str z => if szOk z.length = true then .ok ((z.length : Int) != 0) else .er
  | .lst xs => .ok (!xs.isEmpty)
  | .frl xs => .ok (!xs.isEmpty)
  | .tup xs => .ok (!xs.isEmpty)
  | _ => .er
def fTr (f : Env → Res D) : Env → Res Bool := fun ρ => (f ρ).bind trD
section
variable {K : PySem.W.Frag} {mg : Str → Option Value}
theorem RepL.empty {S : Hp} {vs : List V} {ds : List D} (r : RepL K mg S vs ds) : (!ds.isEmpty) = !vs.isEmpty := by
  have := r.len
  cases vs with
  | nil =>
    cases ds with
    | nil => rfl
    | cons _ _ => simp at this
  | cons _ _ =>
    cases ds with
    | nil => simp at this
    | cons _ _ => rfl
theorem tru_of {S H : Hp} {v : V} {d : D} {b : Bool} (hs : Same S H) (r : Rep K mg S v d) (h : trD d = .ok b) : TruV K v H b := by
  cases d with
  | non => cases r; cases h; rfl
  | bl c => cases r; cases h; rfl
  | int c => cases r; cases h; rfl
  | str z =>
    cases r
    simp only [trD] at h
    split at h
    · rename_i hz
      cases h
      exact ⟨szOk_ok hz, rfl⟩
    · cases h
  | lst xs =>
    obtain ⟨a, vs, rfl, ha, rv⟩ := r.of_lst
    simp only [trD] at h
    cases h
    exact .inl ⟨vs, .inl (.inl (hs _ _ ha)), rv.empty⟩
  | frl xs =>
    obtain ⟨a, vs, rfl, ha, rv⟩ := r.of_frl
    simp only [trD] at h
    cases h
    exact .inl ⟨vs, same_l hs ha, rv.empty⟩
  | tup xs =>
    obtain ⟨a, vs, rfl, ha, rv⟩ := r.of_tup
    simp only [trD] at h
    cases h
    exact .inr (.inl ⟨vs, same_t hs ha, rv.empty⟩)
  | _ => cases h
end
section
variable {X : Cx} {E : WX} {m : Mds} {md : Md} {a b c e : Expr} {es : List Expr} {f fa fb fc : Env → Res D} {fs : Env → Res (List D)} {pos p p1 p2 : Pos} {x : Str}
theorem jt_tr (h : JE X E m .sh e f) (he : ∀ whole, isTrue e X.env whole = (do let v ← whole; standAt e.pos; holding [v] (truthy v)) := by intro _; rfl) : JT X E m e (fTr f) := by
  refine ⟨PTimp (pt_truth h.pe he) fun σ H Q q => ?_⟩
  obtain ⟨S, ρ, hm, hp⟩ := q
  refine ⟨S, ρ, hm, (PostW.bind hp).post fun d v S1 H1 s1 r k => ?_⟩
  cases ed : trD d with
  | ok bb =>
    rw [ed] at k
    exact ⟨bb, tru_of s1.sub r ed, k S1 H1 (Step.refl s1.sub)⟩
  | ex c fs =>
    exfalso
    cases d with
    | str z => simp only [trD] at ed; split at ed <;> cases ed
    | _ => simp only [trD] at ed; cases ed
  | er => rw [ed] at k; exact k.elim
def dList : D → Res D
  | .lst xs => .ok (.lst xs)
  | .frl xs => .ok (.lst xs)
  | .tup xs => .ok (.lst xs)
  | _ => .er
def dTuple : D → Res D
  | .lst xs => .ok (.tup xs)
  | .frl xs => .ok (.tup xs)
  | .tup xs => .ok (.tup xs)
  | _ => .er
theorem je_list (hm : X.mg "list" = none) (ha : JA X E m [e] fs) (hmd : md = .sh ∨ md = .ow := by first | exact .inl rfl | exact .inr rfl) (hg : Gl X "list" := by rfl) (he : starEach [e] X.env = (false, eval e X.env) :: starEach [] X.env := by rfl) : JE X E m md (.Call (.Name "list" p) [e] [] pos) (fOn (on1 dList) fs) :=
  je_callTy call_list_of (calld1 fun E S H x d Q hs rx hp => by
    cases d with
    | lst xs =>
      obtain ⟨a, vs, rfl, ha, rv⟩ := rx.of_lst
      exact ⟨a, vs, rfl, .inl (.inl (.inl (hs _ _ ha))), fun l hl => Post.list hmd hp hs rv hl⟩
    | frl xs =>
      obtain ⟨a, vs, rfl, ha, rv⟩ := rx.of_frl
      exact ⟨a, vs, rfl, .inl (same_l hs ha), fun l hl => Post.list hmd hp hs rv hl⟩
    | tup xs =>
      obtain ⟨a, vs, rfl, ha, rv⟩ := rx.of_tup
      exact ⟨a, vs, rfl, .inr (same_t hs ha), fun l hl => Post.list hmd hp hs rv hl⟩
    | _ => exact hp.elim) hm ha hg (by decide +kernel) (by decide) (by decide) he (by rfl)
theorem je_tuple (hm : X.mg "tuple" = none) (ha : JA X E m [e] fs) (hg : Gl X "tuple" := by rfl) (he : starEach [e] X.env = (false, eval e X.env) :: starEach [] X.env := by rfl) : JE X E m .sh (.Call (.Name "tuple" p) [e] [] pos) (fOn (on1 dTuple) fs) :=
  je_callTy call_tuple_of (calld1 fun E S H x d Q hs rx hp => by
    cases d with
    | lst xs =>
      obtain ⟨a, vs, rfl, ha, rv⟩ := rx.of_lst
      exact ⟨a, vs, rfl, .inl ⟨.inl (.inl (hs _ _ ha)), fun l hl => Post.tup hp hs rv hl⟩⟩
    | frl xs =>
      obtain ⟨a, vs, rfl, ha, rv⟩ := rx.of_frl
      exact ⟨a, vs, rfl, .inl ⟨same_l hs ha, fun l hl => Post.tup hp hs rv hl⟩⟩
    | tup xs =>
      have hp : Post X.K X.mg E S H .sh (.ok (.tup xs)) Q := hp
      have hv := hp.val hs rx
      obtain ⟨a, vs, rfl, ha, rv⟩ := rx.of_tup
      exact ⟨a, vs, rfl, .inr ⟨same_t hs ha, hv⟩⟩
    | _ => exact hp.elim) hm ha hg (by decide +kernel) (by decide) (by decide) he (by rfl)
def rgnOk (i j : Int) : Bool := stuck (rngOk i j = true ∧ (j - i).toNat ≤ 16777216)
theorem rgnOk_ok {i j : Int} (h : rgnOk i j = true) : RgOk i j := by
  have h := stuck_iff.mp h
  obtain ⟨h1, h2, h3, h4⟩ := rngOk_ok h.1
  exact ⟨h1, h2, h3, h4, h.2⟩
def fListR1 (f : Env → Res D) : Env → Res D := fun ρ => (f ρ).bind fun d => match d with
  | .int j => if rgnOk 0 j = true then .ok (.lst (rng 0 (j - 0).toNat)) else .er
  | _ => .er
def fTupleR1 (f : Env → Res D) : Env → Res D := fun ρ => (f ρ).bind fun d => match d with
  | .int j => if rgnOk 0 j = true then .ok (.tup (rng 0 (j - 0).toNat)) else .er
  | _ => .er
theorem rep_rng {K : PySem.W.Frag} {mg : Str → Option Value} {S : Hp} (a b : Int) : RepL K mg S (rgV a b) (rng a (b - a).toNat) := by
  unfold rgV rng
  refine ⟨by rw [List.length_map, List.length_map], fun i v d h1 h2 => ?_⟩
  rw [List.getElem?_map] at h1 h2
  cases e : (List.range (b - a).toNat)[i]? with
  | none => rw [e] at h1; cases h1
  | some j =>
    rw [e] at h1 h2
    cases h1; cases h2
    exact .int _
theorem je_listR1 (hm : X.mg "list" = none) (hm2 : X.mg "range" = none) (ha : JE X E m .sh a fa) (hmd : md = .sh ∨ md = .ow := by first | exact .inl rfl | exact .inr rfl) (hc : X.calm = true := by rfl) (hg : Gl X "list" := by rfl) (hg2 : Gl X "range" := by rfl) (na : starEach [a] X.env = (false, eval a X.env) :: starEach [] X.env := by rfl)
    (nb : starEach [.Call (.Name "range" p1) [a] [] p2] X.env = (false, eval (.Call (.Name "range" p1) [a] [] p2) X.env) :: starEach [] X.env := by rfl) : JE X E m md (.Call (.Name "list" p) [.Call (.Name "range" p1) [a] [] p2] [] pos) (fListR1 fa) := by
  refine ⟨PEimp (pe_listRg hc hg hm (prg_1 hg2 hm2 ha.pe na) nb) fun σ H Q h => ?_⟩
  obtain ⟨S, ρ, hm, hp⟩ := h
  refine ⟨S, ρ, hm, (Post.bind hp).post fun d v S1 H1 s1 r k => ?_⟩
  cases d with
  | int j =>
    obtain ⟨hk, k⟩ := Post.of_if k
    cases r
    exact ⟨j, rfl, rgnOk_ok hk, fun q hq => Post.list hmd k s1.sub (rep_rng 0 j) hq⟩
  | _ => exact k.elim
def intsD : List D → Option (List Int)
  | [] => some []
  | .int i :: r => match intsD r with
    | some ns => some (i :: ns)
    | none => none
  | _ => none
def boolsD : List D → Option (List Bool)
  | [] => some []
  | .bl i :: r => match boolsD r with
    | some ns => some (i :: ns)
    | none => none
  | _ => none
theorem intsD_ok : ∀ {ds : List D} {ns : List Int}, intsD ds = some ns → ds = ns.map D.int
  | [], ns, h => by cases h; rfl
  | .int i :: r, ns, h => by
    simp only [intsD] at h
    split at h
    · rename_i ms e
      cases h
      rw [intsD_ok e]
      rfl
    · cases h
  | .non :: r, ns, h => by cases h
  | .bl _ :: r, ns, h => by cases h
  | .str _ :: r, ns, h => by cases h
  | .lst _ :: r, ns, h => by cases h
  | .tup _ :: r, ns, h => by cases h
  | .frl _ :: r, ns, h => by cases h
  | .dic _ _ :: r, ns, h => by cases h
  | .dit _ _ :: r, ns, h => by cases h
  | .obj _ _ _ :: r, ns, h => by cases h
theorem boolsD_ok : ∀ {ds : List D} {ns : List Bool}, boolsD ds = some ns → ds = ns.map D.bl
  | [], ns, h => by cases h; rfl
  | .bl i :: r, ns, h => by
    simp only [boolsD] at h
    split at h
    · rename_i ms e
      cases h
      rw [boolsD_ok e]
      rfl
    · cases h
  | .non :: r, ns, h => by cases h
  | .int _ :: r, ns, h => by cases h
  | .str _ :: r, ns, h => by cases h
  | .lst _ :: r, ns, h => by cases h
  | .tup _ :: r, ns, h => by cases h
  | .frl _ :: r, ns, h => by cases h
  | .dic _ _ :: r, ns, h => by cases h
  | .dit _ _ :: r, ns, h => by cases h
  | .obj _ _ _ :: r, ns, h => by cases h
@[simp] theorem intsD_map : ∀ ns : List Int, intsD (ns.map D.int) = some ns
  | [] => rfl
  | n :: ns => by simp only [List.map_cons, intsD, intsD_map ns]
@[simp] theorem boolsD_map : ∀ ns : List Bool, boolsD (ns.map D.bl) = some ns
  | [] => rfl
  | n :: ns => by simp only [List.map_cons, boolsD, boolsD_map ns]
def dSum : D → Res D
  | .lst xs => match intsD xs with
    | some ns => .ok (.int ns.sum)
    | none => .er
  | _ => .er
def dAll : D → Res D
  | .lst xs => match boolsD xs with
    | some ns => .ok (.bl (ns.all id))
    | none => .er
  | _ => .er
theorem je_all (hm : X.mg "all" = none) (ha : JA X E m [e] fs) (hc : X.calm = true := by rfl) (hg : Gl X "all" := by rfl) (he : starEach [e] X.env = (false, eval e X.env) :: starEach [] X.env := by rfl) : JE X E m .sh (.Call (.Name "all" p) [e] [] pos) (fOn (on1 dAll) fs) :=
  je_callB (cr_all hc) (calld1 fun E S H x d Q hs rx hp => by
    cases d with
    | lst xs =>
      obtain ⟨a, vs, rfl, ha, rv⟩ := rx.of_lst
      simp only [dAll] at hp
      split at hp
      · rename_i ns en
        rw [boolsD_ok en] at rv
        exact ⟨a, ns, rfl, by rw [← rv.bls]; exact .inl (.inl (hs _ _ ha)), hp.val hs (.bl _)⟩
      · exact hp.elim
    | _ => exact (show False from hp).elim) hm ha hg (by decide +kernel) (by decide) (by decide) he (by rfl)
def repOk (n : Nat) (k : Int) : Bool := stuck ((-(9223372036854775808) ≤ k ∧ k < 9223372036854775808) ∧ szOk (n * k.toNat) = true)
def dRep : D → D → Res D
  | .lst xs, .int k => if repOk xs.length k = true then .ok (.lst (List.replicate k.toNat xs).flatten) else .er
  | _, _ => .er
theorem RepL.rep {K : PySem.W.Frag} {mg : Str → Option Value} {S : Hp} {vs : List V} {ds : List D} (r : RepL K mg S vs ds) : ∀ k : Nat, RepL K mg S (List.replicate k vs).flatten (List.replicate k ds).flatten
  | 0 => .nil
  | k + 1 => by
    rw [List.replicate_succ, List.replicate_succ, List.flatten_cons, List.flatten_cons]
    exact r.append (r.rep k)
theorem je_rep (ha : JE X E m .sh a fa) (hb : JE X E m .sh b fb) (hmd : md = .sh ∨ md = .ow := by first | exact .inl rfl | exact .inr rfl) : JE X E m md (.BinOp a .Mult b pos) (f2 dRep fa fb) := je_op op_rep (fun E S H x y dx dy Q hs rx ry h => by
  cases dx with
  | lst xs =>
    cases dy with
    | int k =>
      obtain ⟨hz, h⟩ := Post.of_if h
      have hz := stuck_iff.mp hz
      have h12 := hz.1
      obtain ⟨l, vs, rfl, hl, rv⟩ := rx.of_lst
      cases ry
      have h1 := h12.1
      have h2 := h12.2
      exact ⟨l, k, vs, rfl, rfl, hs _ _ hl, by omega, by omega, by rw [rv.len]; exact szOk_ok hz.2, fun p hp => Post.list hmd h hs (rv.rep _) hp⟩
    | _ => exact h.elim
  | _ => exact h.elim) ha hb
def cutD (xs : List D) (lo hi : Option Int) : List D := (xs.drop (HT.sIx xs.length 0 lo)).take (HT.sIx xs.length xs.length hi - HT.sIx xs.length 0 lo)
def fNoI : Env → Res (Option Int) := fun _ => .ok none
def fSoI (f : Env → Res D) : Env → Res (Option Int) := fun ρ => (f ρ).bind fun d => match d with
  | .int i => .ok (some i)
  | _ => .er
def dCut (d : D) (lo hi : Option Int) : Res D := match d with
  | .lst xs => .ok (.lst (cutD xs lo hi))
  | .frl xs => .ok (.lst (cutD xs lo hi))
  | .tup xs => .ok (.tup (cutD xs lo hi))
  | _ => .er
def dCutL (d : D) (lo hi : Option Int) : Res D := match d with
  | .lst xs => .ok (.lst (cutD xs lo hi))
  | .frl xs => .ok (.lst (cutD xs lo hi))
  | _ => .er
def fCut (g : D → Option Int → Option Int → Res D) (f : Env → Res D) (fl fh : Env → Res (Option Int)) : Env → Res D := fun ρ => (f ρ).bind fun x => (fl ρ).bind fun l => (fh ρ).bind fun h => g x l h
def tO (K : PySem.W.Frag) (mg : Str → Option Value) (E : WX) (m : Mds) (f : Env → Res (Option Int)) : TO := fun σ H Q => ∃ S ρ, EnvM K mg m S H σ ρ ∧ PostW K mg (WE E σ) S H (f ρ) fun o _ H' => Q o H'
structure JO (X : Cx) (E : WX) (m : Mds) (e : Option Expr) (f : Env → Res (Option Int)) : Prop where
  po : PO X e (tO X.K X.mg E m f)
theorem POimp {t t' : TO} {o : Option Expr} (h : PO X o t) (g : ∀ σ H Q, t' σ H Q → t σ H Q) : PO X o t' := ⟨fun pins s σ H Q I q => h.run pins s σ H Q I (g σ H Q q)⟩
theorem jo_none : JO X E m none fNoI := ⟨POimp po_none fun σ H Q h => by
  obtain ⟨S, ρ, hm, hp⟩ := h
  exact hp S H (Step.refl hm.1)⟩
theorem jo_some (h : JE X E m .sh e f) : JO X E m (some e) (fSoI f) := ⟨POimp (po_some h.pe) fun σ H Q h => by
  obtain ⟨S, ρ, hm, hp⟩ := h
  refine ⟨S, ρ, hm, (PostW.bind hp).post fun d v S1 H1 s1 r k => ?_⟩
  cases d with
  | int i => cases r; exact ⟨i, rfl, k S1 H1 (Step.refl s1.sub)⟩
  | _ => exact k.elim⟩
theorem repl_cut {K : PySem.W.Frag} {mg : Str → Option Value} {S : Hp} {vs : List V} {ds : List D} (r : RepL K mg S vs ds) (lo hi : Option Int) : RepL K mg S (cutV vs lo hi) (cutD ds lo hi) := by
  unfold cutV cutD
  rw [r.len]
  exact (r.drop _).take _
def rSlAll (K : PySem.W.Frag) : V → Option Int → Option Int → Hp → VK → Prop := fun x lo hi H Q => rSlL K x lo hi H Q ∨ rSlA K x lo hi H Q
theorem sl_all : SlR X (rSlAll X.K) := SlR.or sl_list sl_tupA
theorem cut_id {α : Type} {xs : List α} {lo hi : Option Int} (h : HT.sIx xs.length 0 lo = 0 ∧ HT.sIx xs.length xs.length hi = xs.length) : (xs.drop (HT.sIx xs.length 0 lo)).take (HT.sIx xs.length xs.length hi - HT.sIx xs.length 0 lo) = xs := by
  rw [h.1, h.2]
  simp
theorem cut_ok {K : PySem.W.Frag} {mg : Str → Option Value} {E : XK} {S H : Hp} {x : V} {d : D} {lo hi : Option Int} {Q : VK} (hs : Same S H) (rx : Rep K mg S x d) (h : Post K mg E S H .sh (dCut d lo hi) Q) : rSlAll K x lo hi H Q := by
  cases d with
  | lst xs =>
    obtain ⟨a, vs, rfl, ha, rv⟩ := rx.of_lst
    exact .inl ⟨a, vs, rfl, .inl (.inl (hs _ _ ha)), fun p hp => Post.lst h hs (repl_cut rv lo hi) hp⟩
  | frl xs =>
    obtain ⟨a, vs, rfl, ha, rv⟩ := rx.of_frl
    exact .inl ⟨a, vs, rfl, same_l hs ha, fun p hp => Post.lst h hs (repl_cut rv lo hi) hp⟩
  | tup xs =>
    have rx' := rx
    obtain ⟨a, vs, rfl, ha, rv⟩ := rx.of_tup
    refine .inr ⟨a, vs, rfl, same_t hs ha, fun e => ?_, fun _ p hp => Post.tup h hs (repl_cut rv lo hi) hp⟩
    rw [rv.len] at e
    have h : Post K mg E S H .sh (.ok (.tup (cutD xs lo hi))) Q := h
    unfold cutD at h
    rw [cut_id e] at h
    exact h.val hs rx'
  | _ => exact h.elim
theorem je_cut {l h : Option Expr} {fl fh : Env → Res (Option Int)} (ha : JE X E m .sh a fa) (hl : JO X E m l fl) (hh : JO X E m h fh) : JE X E m .sh (.Subscript a (.Slice l h none p2) pos) (fCut dCut fa fl fh) := by
  refine ⟨PEimp (pe_slice sl_all ha.pe hl.po hh.po) fun σ H Q q => ?_⟩
  obtain ⟨S, ρ, hm, hp⟩ := q
  refine ⟨S, ρ, hm, (Post.bind hp).post fun d v S1 H1 s1 r k => ⟨S1, ρ, hm.step s1, (Post.bind k).imp fun lo S2 H2 s2 k2 => ⟨S2, ρ, (hm.step s1).step s2, (Post.bind k2).imp fun hi S3 H3 s3 k3 => ?_⟩⟩⟩
  exact cut_ok s3.sub (r.mono (s2.ss.trans s3.ss)) k3
end
end Da
namespace Da
open PySem PySem.Spec L2
section
variable {P : Program} {w : World} {K : PySem.W.Frag} {mg : Str → Option Value} {base h : Heap}
theorem defAt_mk {x qual : Str} {st : Stmt} {ps : List Str} {f : Addr} {oc : Value} {od an : Option Addr} {osl : Array (Option Value)} {kV doc pm cdv ct : Value} (X : K.In h) (G : h.Ns mainGlobals mg) (a : PySem.W.nsIn K mainGlobals x = some (some (.ref f)))
    (l : K.lookup f = some ⟨oc, od, .func (PySem.W.fnOf x qual (defArgs st) (defBody st) (defScope st) .none kV doc pm an cdv ct), osl⟩) (c : PySem.W.codeIn K cdv qual = true) (k : PySem.W.keepIn K (.ref f) = true)
    (hb : ∀ (kV doc pm : Value) (an : Option Addr) (cdv ct : Value) (us : List Value), us.length = ps.length → bindArgs (PySem.W.fnOf x qual (defArgs st) (defBody st) (defScope st) .none kV doc pm an cdv ct) ⟨us, []⟩ = pure (ps.zip us)) : DefAt K mg x qual st ps := by
  have Fn := fun_mk (st := st) l c k
  exact ⟨f, _, Fn, Fn.binds hb, PySem.W.mg_of X G a⟩
/-- what the law is asked -/
def spLaw (K : PySem.W.Frag) : Sp := fun vs H Q _ => ∃ (a : Addr) (ns : List Int), vs = [.ref a] ∧ SqL K H a (ns.map V.int) ∧ ns.length ≤ 63 ∧ (∀ z ∈ ns, Builtin.Int.intBits z ≤ 1048576) ∧ ∀ H', Q (.bl true) H'
theorem law_imp {k : Nat} {f : Addr} {fd : FuncData} {g : List D → Res D} (G : FnOk P w K mg base (L2.CX P w) k f fd ["script"] (spD K mg 1 .sh g)) (hg : ∀ ns : List Int, ns.length ≤ 63 → (∀ z ∈ ns, Builtin.Int.intBits z ≤ 1048576) → g [.frl (ns.map D.int)] = .ok (.bl true)) :
    FnOk P w K mg base (L2.CX P w) k f fd ["script"] (spLaw K) := G.imp fun vs H Q E hsp => by
  obtain ⟨a, ns, rfl, hS, hl, hb, q⟩ := hsp
  refine ⟨H, [.frl (ns.map D.int)], Same.refl H, .cons (.frl hS (by rw [List.length_map, List.length_map]) (RepL.of_ints ns).at_) .nil, ?_⟩
  show Post K mg E H H .sh (chk 1 g [.frl (ns.map D.int)]) Q
  unfold chk
  rw [if_pos (by rfl), hg ns hl hb]
  intro v S' H' fp s' o _ _
  cases o.1
  exact q H'
theorem cx_none {H : Hp} {s s' : Shared} {e : Value} (h : L2.CX P w [] H s (fun _ _ _ => False) e s') : False := by
  obtain ⟨_, _, _, _, _, _, _, _, _, _, _, _, z⟩ := h
  exact z
theorem walk_end {l : PySem.W.OpenLaw} {q : Program} {loose : List Str} {XP : (Str → Option Value) → Heap → Prop} {YP : World → Heap → Prop} {d : DefRec} {K : Params → PySem.W.Frag} {k : Nat} (hn : l.most = some 63) (hdf : d.params.defaults = []) (hr : Room k callerA)
    (hY : ∀ (w : World) (h : Heap), YP w h → (K w.params).In h)
    (F : ∀ (w : World) (mg : Str → Option Value) (fa : Addr) (h : Heap), (K w.params).In h → h.Ns mainGlobals mg → mg d.name = some (.ref fa) →
      ∃ fd : FuncData, (∀ (s : Shared) (u : Value), BindsTo s fd ⟨[u], []⟩ [("script", u)]) ∧ ∀ base : Heap, (K w.params).In base → base.Ns mainGlobals mg → FnOk l.prog w (K w.params) mg base (L2.CX l.prog w) k fa fd ["script"] (spLaw (K w.params))) :
    PySem.W.WalkO q loose XP YP l.row.toRowW d [] (fun f vs => PySem.call f vs) :=
  L2.walk_ofB (n := 63) (k := k) (x := "script") (CX := fun w => L2.CX l.prog w) (sp := fun w => spLaw (K w.params)) hn (by decide) hdf hr hY F (fun w H a ns hl hb _ hS => ⟨a, ns, rfl, hS, hl, hb, fun _ => rfl⟩) fun w H s e s' z => cx_none z
end
end Da
namespace Da
open PySem PySem.Spec L2
section
variable {ρ : Env} {f fa fb fc : Env → Res D} {g : D → Res D} {g2 : D → D → Res D} {fs : Env → Res (List D)} {c ga gb : Env → Res Bool} {F G : FS} {d e : D} {i : Nat}
@[simp] theorem fC_ap : fC d ρ = .ok d := rfl
@[simp] theorem fV_nil : fV i [] = .er := by simp [fV]
@[simp] theorem fV_zero {x : D} {r : Env} : fV 0 (some x :: r) = .ok x := rfl
@[simp] theorem fV_succ {x : Option D} {r : Env} : fV (i + 1) (x :: r) = fV i r := by
  unfold fV
  rw [List.getElem?_cons_succ]
@[simp] theorem f1_ap : f1 g fa ρ = (fa ρ).bind g := rfl
@[simp] theorem f2_ap : f2 g2 fa fb ρ = (fa ρ).bind fun x => (fb ρ).bind fun y => g2 x y := rfl
@[simp] theorem fA0_ap : fA0 ρ = .ok [] := rfl
@[simp] theorem fA_ap : fA fa fs ρ = (fa ρ).bind fun x => (fs ρ).bind fun xs => .ok (x :: xs) := rfl
@[simp] theorem fOn_ap {g : List D → Res D} : fOn g fs ρ = (fs ρ).bind g := rfl
@[simp] theorem fB_ap : fB f ρ = (f ρ).bind asB := rfl
@[simp] theorem fTr_ap : fTr f ρ = (f ρ).bind trD := rfl
@[simp] theorem fBv_ap : fBv c ρ = (c ρ).bind fun b => .ok (.bl b) := rfl
@[simp] theorem asB_bl {b : Bool} : asB (.bl b) = .ok b := rfl
@[simp] theorem fAnd_ap : fAnd ga gb ρ = (ga ρ).bind fun c => if c = true then gb ρ else .ok false := rfl
@[simp] theorem fOr_ap : fOr ga gb ρ = (ga ρ).bind fun c => if c = true then .ok true else gb ρ := rfl
@[simp] theorem fNot_ap : fNot ga ρ = (ga ρ).bind fun c => .ok (!c) := rfl
@[simp] theorem fIf_ap : fIf c fa fb ρ = (c ρ).bind fun b => if b = true then fa ρ else fb ρ := rfl
@[simp] theorem fL_ap : fL f ρ = (f ρ).bind asL := rfl
@[simp] theorem fR1_ap : fR1 fs ρ = (fs ρ).bind gRng1 := rfl
@[simp] theorem fR2_ap : fR2 fs ρ = (fs ρ).bind gRng2 := rfl
@[simp] theorem asL_lst {xs : List D} : asL (.lst xs) = .ok xs := rfl
@[simp] theorem asL_frl {xs : List D} : asL (.frl xs) = .ok xs := rfl
@[simp] theorem asL_tup {xs : List D} : asL (.tup xs) = .ok xs := rfl
@[simp] theorem on1_ap {g : D → Res D} : on1 g [d] = g d := rfl
@[simp] theorem on2_ap {g : D → D → Res D} : on2 g [d, e] = g d e := rfl
@[simp] theorem gN_ap : gN i d ρ = .ok (ρ.set i (some d)) := rfl
@[simp] theorem fNext_ap : fNext ρ = .ok (.nx ρ) := rfl
@[simp] theorem fBrk_ap : fBrk ρ = .ok (.bk ρ) := rfl
@[simp] theorem fCnt_ap : fCnt ρ = .ok (.ct ρ) := rfl
@[simp] theorem fSet_ap : fSet i f ρ = lift (f ρ) ρ fun d => .ok (.nx (ρ.set i (some d))) := rfl
@[simp] theorem fRet_ap : fRet f ρ = lift (f ρ) ρ fun d => .ok (.rt d) := rfl
@[simp] theorem fRetN_ap : fRetN ρ = .ok (.rt .non) := rfl
@[simp] theorem fIfS_ap : fIfS c F G ρ = lift (c ρ) ρ fun b => if b = true then F ρ else G ρ := rfl
@[simp] theorem fDrop_ap : fDrop f ρ = lift (f ρ) ρ fun _ => .ok (.nx ρ) := rfl
@[simp] theorem fAug_ap : fAug i g2 f ρ = lift ((fV i ρ).bind fun x => (f ρ).bind fun y => g2 x y) ρ fun d => .ok (.nx (ρ.set i (some d))) := rfl
theorem fSeq_nx {ρ' : Env} (h : F ρ = .ok (.nx ρ')) : fSeq F G ρ = G ρ' := by unfold fSeq; rw [h]
/-- a block behind an end -/
def andThen (o : Res Fl) (G : FS) : Res Fl := match o with
  | .ok (.nx ρ') => G ρ'
  | o => o
@[simp] theorem fSeq_ap : fSeq F G ρ = andThen (F ρ) G := rfl
@[simp] theorem andThen_nx {ρ' : Env} : andThen (.ok (.nx ρ')) G = G ρ' := rfl
@[simp] theorem andThen_rt {d : D} : andThen (.ok (.rt d)) G = .ok (.rt d) := rfl
@[simp] theorem andThen_bk {ρ' : Env} : andThen (.ok (.bk ρ')) G = .ok (.bk ρ') := rfl
@[simp] theorem andThen_ct {ρ' : Env} : andThen (.ok (.ct ρ')) G = .ok (.ct ρ') := rfl
@[simp] theorem andThen_xc {c : Str} {fs : List (Str × D)} {ρ' : Env} : andThen (.ok (.xc c fs ρ')) G = .ok (.xc c fs ρ') := rfl
@[simp] theorem andThen_er : andThen .er G = .er := rfl
@[simp] theorem andThen_ite {p : Prop} [Decidable p] {a b : Res Fl} : andThen (if p then a else b) G = if p then andThen a G else andThen b G := by split <;> rfl
@[simp] theorem fApp_zero {xs : List D} {r : Env} : fApp 0 f (some (.lst xs) :: r) = lift (f (some (.lst xs) :: r)) (some (.lst xs) :: r) fun d => if szOk (xs.length + 1) = true then .ok (.nx (some (.lst (xs ++ [d])) :: r)) else .er := rfl
@[simp] theorem dAdd_int {i j : Int} : dAdd (.int i) (.int j) = .ok (.int (i + j)) := rfl
@[simp] theorem dSub_int {i j : Int} : dSub (.int i) (.int j) = .ok (.int (i - j)) := rfl
theorem dMul_int {i j : Int} (h : mulOk i j = true) : dMul (.int i) (.int j) = .ok (.int (i * j)) := if_pos h
@[simp] theorem dLt_int {i j : Int} : dLt (.int i) (.int j) = .ok (.bl (decide (i < j))) := rfl
@[simp] theorem dLe_int {i j : Int} : dLe (.int i) (.int j) = .ok (.bl (decide (i ≤ j))) := rfl
@[simp] theorem dGt_int {i j : Int} : dGt (.int i) (.int j) = .ok (.bl (decide (j < i))) := rfl
@[simp] theorem dGe_int {i j : Int} : dGe (.int i) (.int j) = .ok (.bl (decide (j ≤ i))) := rfl
@[simp] theorem dI_yes {g : Int → Int → Int} {i j : Int} : dI yes2 g (.int i) (.int j) = .ok (.int (g i j)) := rfl
@[simp] theorem dInt_int {i : Int} : dInt (.int i) = .ok (.int i) := rfl
@[simp] theorem dNeg_int {i : Int} : dNeg (.int i) = .ok (.int (-i)) := rfl
@[simp] theorem dAbs_int {i : Int} : dAbs (.int i) = .ok (.int (if i < 0 then -i else i)) := rfl
@[simp] theorem dMax2_int {i j : Int} : dMax2 (.int i) (.int j) = .ok (.int (if j > i then j else i)) := rfl
@[simp] theorem dMin2_int {i j : Int} : dMin2 (.int i) (.int j) = .ok (.int (if j < i then j else i)) := rfl
@[simp] theorem dLen_lst {xs : List D} : dLen (.lst xs) = .ok (.int xs.length) := rfl
@[simp] theorem dLen_frl {xs : List D} : dLen (.frl xs) = .ok (.int xs.length) := rfl
@[simp] theorem dLen_tup {xs : List D} : dLen (.tup xs) = .ok (.int xs.length) := rfl
@[simp] theorem eqD_int {i j : Int} : eqD (.int i) (.int j) = .ok (i == j) := by
  unfold eqD D.py
  simp only [SeqAt.shaped, PyData.canLay0, PyData.depth, PyData.eqv]
  rfl
@[simp] theorem dEq_int {i j : Int} : dEq (.int i) (.int j) = .ok (.bl (i == j)) := by unfold dEq; rw [eqD_int]; rfl
@[simp] theorem dNe_int {i j : Int} : dNe (.int i) (.int j) = .ok (.bl (!(i == j))) := by unfold dNe; rw [eqD_int]; rfl
theorem log2_lt {n k : Nat} (h : n < 2 ^ k) (hk : 0 < k) : n.log2 < k := PySem.Flt.log2_lt_of hk h
theorem mulOk_of {i j : Int} {a b : Nat} (hi : i.natAbs < 2 ^ a) (hj : j.natAbs < 2 ^ b) (ha : 0 < a := by decide) (hb : 0 < b := by decide) (hab : a + b ≤ 1000000 := by decide) : mulOk i j = true := mulOk_yes (wide_mul hi hj ha hb hab)
theorem mul64 {i j : Int} (hi : i.natAbs < 18446744073709551616) (hj : j.natAbs < 18446744073709551616) : mulOk i j = true := mulOk_of (a := 64) (b := 64) hi hj
/-- the greatest divisor's bound, never reckoned out -/
def Lim : Nat := 2 ^ 9000
theorem lt_lim {n : Nat} (h : n < 18446744073709551616) : n < Lim := Nat.lt_of_lt_of_le (show n < 2 ^ 64 from h) (Nat.pow_le_pow_right (by decide) (by decide))
theorem dDiv_pos {i j : Int} (h : 0 < j) (h9 : j.natAbs < Lim) : dDiv (.int i) (.int j) = .ok (.int (i / j)) := by
  show (if divOk i j = true then Res.ok (D.int (i.fdiv j)) else .er) = _
  rw [if_pos (by
    exact stuck_iff.mpr ⟨by omega, log2_lt h9 (by decide)⟩), Int.fdiv_eq_ediv_of_nonneg i (by omega)]
theorem dDiv_64 {i j : Int} (h : 0 < j) (h9 : j < 18446744073709551616) : dDiv (.int i) (.int j) = .ok (.int (i / j)) := dDiv_pos h (lt_lim (by omega))
theorem dMod_pos {i j : Int} (h : 0 < j) : dMod (.int i) (.int j) = .ok (.int (i % j)) := by
  show (if modOk i j = true then Res.ok (D.int (i.fmod j)) else .er) = _
  rw [if_pos (show modOk i j = true from decide_eq_true (by omega)), Int.fmod_eq_emod_of_nonneg i (by omega)]
theorem kb_NoneType_int : kitB "NoneType" "int" = some false := by decide +kernel
theorem kb_bool_int : kitB "bool" "int" = some true := by decide +kernel
theorem kb_int_int : kitB "int" "int" = some true := by decide +kernel
theorem kb_str_int : kitB "str" "int" = some false := by decide +kernel
theorem kb_list_int : kitB "list" "int" = some false := by decide +kernel
theorem kb_tuple_int : kitB "tuple" "int" = some false := by decide +kernel
theorem kb_dict_int : kitB "dict" "int" = some false := by decide +kernel
@[simp] theorem isTy_int_non : isTy "int" .non = .ok false := by unfold isTy tyNm; simp only [kb_NoneType_int]
@[simp] theorem isTy_int_bl {b : Bool} : isTy "int" (.bl b) = .ok true := by unfold isTy tyNm; simp only [kb_bool_int]
@[simp] theorem isTy_int_int {b : Int} : isTy "int" (.int b) = .ok true := by unfold isTy tyNm; simp only [kb_int_int]
@[simp] theorem isTy_int_str {b : Str} : isTy "int" (.str b) = .ok false := by unfold isTy tyNm; simp only [kb_str_int]
@[simp] theorem isTy_int_lst {b : List D} : isTy "int" (.lst b) = .ok false := by unfold isTy tyNm; simp only [kb_list_int]
@[simp] theorem isTy_int_frl {b : List D} : isTy "int" (.frl b) = .ok false := by unfold isTy tyNm; simp only [kb_list_int]
@[simp] theorem isTy_int_tup {b : List D} : isTy "int" (.tup b) = .ok false := by unfold isTy tyNm; simp only [kb_tuple_int]
@[simp] theorem isTy_int_dic {k : List Key} {b : List D} : isTy "int" (.dic k b) = .ok false := by unfold isTy tyNm; simp only [kb_dict_int]
@[simp] theorem isTy_int_dit {k : List (List Key)} {b : List D} : isTy "int" (.dit k b) = .ok false := by unfold isTy tyNm; simp only [kb_dict_int]
theorem kb_NoneType_bool : kitB "NoneType" "bool" = some false := by decide +kernel
theorem kb_bool_bool : kitB "bool" "bool" = some true := by decide +kernel
theorem kb_int_bool : kitB "int" "bool" = some false := by decide +kernel
theorem kb_str_bool : kitB "str" "bool" = some false := by decide +kernel
theorem kb_list_bool : kitB "list" "bool" = some false := by decide +kernel
theorem kb_tuple_bool : kitB "tuple" "bool" = some false := by decide +kernel
theorem kb_dict_bool : kitB "dict" "bool" = some false := by decide +kernel
@[simp] theorem isTy_bool_non : isTy "bool" .non = .ok false := by unfold isTy tyNm; simp only [kb_NoneType_bool]
@[simp] theorem isTy_bool_bl {b : Bool} : isTy "bool" (.bl b) = .ok true := by unfold isTy tyNm; simp only [kb_bool_bool]
@[simp] theorem isTy_bool_int {b : Int} : isTy "bool" (.int b) = .ok false := by unfold isTy tyNm; simp only [kb_int_bool]
@[simp] theorem isTy_bool_str {b : Str} : isTy "bool" (.str b) = .ok false := by unfold isTy tyNm; simp only [kb_str_bool]
@[simp] theorem isTy_bool_lst {b : List D} : isTy "bool" (.lst b) = .ok false := by unfold isTy tyNm; simp only [kb_list_bool]
@[simp] theorem isTy_bool_frl {b : List D} : isTy "bool" (.frl b) = .ok false := by unfold isTy tyNm; simp only [kb_list_bool]
@[simp] theorem isTy_bool_tup {b : List D} : isTy "bool" (.tup b) = .ok false := by unfold isTy tyNm; simp only [kb_tuple_bool]
@[simp] theorem isTy_bool_dic {k : List Key} {b : List D} : isTy "bool" (.dic k b) = .ok false := by unfold isTy tyNm; simp only [kb_dict_bool]
@[simp] theorem isTy_bool_dit {k : List (List Key)} {b : List D} : isTy "bool" (.dit k b) = .ok false := by unfold isTy tyNm; simp only [kb_dict_bool]
theorem kb_NoneType_list : kitB "NoneType" "list" = some false := by decide +kernel
theorem kb_bool_list : kitB "bool" "list" = some false := by decide +kernel
theorem kb_int_list : kitB "int" "list" = some false := by decide +kernel
theorem kb_str_list : kitB "str" "list" = some false := by decide +kernel
theorem kb_list_list : kitB "list" "list" = some true := by decide +kernel
theorem kb_tuple_list : kitB "tuple" "list" = some false := by decide +kernel
theorem kb_dict_list : kitB "dict" "list" = some false := by decide +kernel
@[simp] theorem isTy_list_non : isTy "list" .non = .ok false := by unfold isTy tyNm; simp only [kb_NoneType_list]
@[simp] theorem isTy_list_bl {b : Bool} : isTy "list" (.bl b) = .ok false := by unfold isTy tyNm; simp only [kb_bool_list]
@[simp] theorem isTy_list_int {b : Int} : isTy "list" (.int b) = .ok false := by unfold isTy tyNm; simp only [kb_int_list]
@[simp] theorem isTy_list_str {b : Str} : isTy "list" (.str b) = .ok false := by unfold isTy tyNm; simp only [kb_str_list]
@[simp] theorem isTy_list_lst {b : List D} : isTy "list" (.lst b) = .ok true := by unfold isTy tyNm; simp only [kb_list_list]
@[simp] theorem isTy_list_frl {b : List D} : isTy "list" (.frl b) = .ok true := by unfold isTy tyNm; simp only [kb_list_list]
@[simp] theorem isTy_list_tup {b : List D} : isTy "list" (.tup b) = .ok false := by unfold isTy tyNm; simp only [kb_tuple_list]
@[simp] theorem isTy_list_dic {k : List Key} {b : List D} : isTy "list" (.dic k b) = .ok false := by unfold isTy tyNm; simp only [kb_dict_list]
@[simp] theorem isTy_list_dit {k : List (List Key)} {b : List D} : isTy "list" (.dit k b) = .ok false := by unfold isTy tyNm; simp only [kb_dict_list]
theorem kb_NoneType_tuple : kitB "NoneType" "tuple" = some false := by decide +kernel
theorem kb_bool_tuple : kitB "bool" "tuple" = some false := by decide +kernel
theorem kb_int_tuple : kitB "int" "tuple" = some false := by decide +kernel
theorem kb_str_tuple : kitB "str" "tuple" = some false := by decide +kernel
theorem kb_list_tuple : kitB "list" "tuple" = some false := by decide +kernel
theorem kb_tuple_tuple : kitB "tuple" "tuple" = some true := by decide +kernel
theorem kb_dict_tuple : kitB "dict" "tuple" = some false := by decide +kernel
@[simp] theorem isTy_tuple_non : isTy "tuple" .non = .ok false := by unfold isTy tyNm; simp only [kb_NoneType_tuple]
@[simp] theorem isTy_tuple_bl {b : Bool} : isTy "tuple" (.bl b) = .ok false := by unfold isTy tyNm; simp only [kb_bool_tuple]
@[simp] theorem isTy_tuple_int {b : Int} : isTy "tuple" (.int b) = .ok false := by unfold isTy tyNm; simp only [kb_int_tuple]
@[simp] theorem isTy_tuple_str {b : Str} : isTy "tuple" (.str b) = .ok false := by unfold isTy tyNm; simp only [kb_str_tuple]
@[simp] theorem isTy_tuple_lst {b : List D} : isTy "tuple" (.lst b) = .ok false := by unfold isTy tyNm; simp only [kb_list_tuple]
@[simp] theorem isTy_tuple_frl {b : List D} : isTy "tuple" (.frl b) = .ok false := by unfold isTy tyNm; simp only [kb_list_tuple]
@[simp] theorem isTy_tuple_tup {b : List D} : isTy "tuple" (.tup b) = .ok true := by unfold isTy tyNm; simp only [kb_tuple_tuple]
@[simp] theorem isTy_tuple_dic {k : List Key} {b : List D} : isTy "tuple" (.dic k b) = .ok false := by unfold isTy tyNm; simp only [kb_dict_tuple]
@[simp] theorem isTy_tuple_dit {k : List (List Key)} {b : List D} : isTy "tuple" (.dit k b) = .ok false := by unfold isTy tyNm; simp only [kb_dict_tuple]
theorem kb_NoneType_str : kitB "NoneType" "str" = some false := by decide +kernel
theorem kb_bool_str : kitB "bool" "str" = some false := by decide +kernel
theorem kb_int_str : kitB "int" "str" = some false := by decide +kernel
theorem kb_str_str : kitB "str" "str" = some true := by decide +kernel
theorem kb_list_str : kitB "list" "str" = some false := by decide +kernel
theorem kb_tuple_str : kitB "tuple" "str" = some false := by decide +kernel
theorem kb_dict_str : kitB "dict" "str" = some false := by decide +kernel
@[simp] theorem isTy_str_non : isTy "str" .non = .ok false := by unfold isTy tyNm; simp only [kb_NoneType_str]
@[simp] theorem isTy_str_bl {b : Bool} : isTy "str" (.bl b) = .ok false := by unfold isTy tyNm; simp only [kb_bool_str]
@[simp] theorem isTy_str_int {b : Int} : isTy "str" (.int b) = .ok false := by unfold isTy tyNm; simp only [kb_int_str]
@[simp] theorem isTy_str_str {b : Str} : isTy "str" (.str b) = .ok true := by unfold isTy tyNm; simp only [kb_str_str]
@[simp] theorem isTy_str_lst {b : List D} : isTy "str" (.lst b) = .ok false := by unfold isTy tyNm; simp only [kb_list_str]
@[simp] theorem isTy_str_frl {b : List D} : isTy "str" (.frl b) = .ok false := by unfold isTy tyNm; simp only [kb_list_str]
@[simp] theorem isTy_str_tup {b : List D} : isTy "str" (.tup b) = .ok false := by unfold isTy tyNm; simp only [kb_tuple_str]
@[simp] theorem isTy_str_dic {k : List Key} {b : List D} : isTy "str" (.dic k b) = .ok false := by unfold isTy tyNm; simp only [kb_dict_str]
@[simp] theorem isTy_str_dit {k : List (List Key)} {b : List D} : isTy "str" (.dit k b) = .ok false := by unfold isTy tyNm; simp only [kb_dict_str]
theorem kb_NoneType_dict : kitB "NoneType" "dict" = some false := by decide +kernel
theorem kb_bool_dict : kitB "bool" "dict" = some false := by decide +kernel
theorem kb_int_dict : kitB "int" "dict" = some false := by decide +kernel
theorem kb_str_dict : kitB "str" "dict" = some false := by decide +kernel
theorem kb_list_dict : kitB "list" "dict" = some false := by decide +kernel
theorem kb_tuple_dict : kitB "tuple" "dict" = some false := by decide +kernel
theorem kb_dict_dict : kitB "dict" "dict" = some true := by decide +kernel
@[simp] theorem isTy_dict_non : isTy "dict" .non = .ok false := by unfold isTy tyNm; simp only [kb_NoneType_dict]
@[simp] theorem isTy_dict_bl {b : Bool} : isTy "dict" (.bl b) = .ok false := by unfold isTy tyNm; simp only [kb_bool_dict]
@[simp] theorem isTy_dict_int {b : Int} : isTy "dict" (.int b) = .ok false := by unfold isTy tyNm; simp only [kb_int_dict]
@[simp] theorem isTy_dict_str {b : Str} : isTy "dict" (.str b) = .ok false := by unfold isTy tyNm; simp only [kb_str_dict]
@[simp] theorem isTy_dict_lst {b : List D} : isTy "dict" (.lst b) = .ok false := by unfold isTy tyNm; simp only [kb_list_dict]
@[simp] theorem isTy_dict_frl {b : List D} : isTy "dict" (.frl b) = .ok false := by unfold isTy tyNm; simp only [kb_list_dict]
@[simp] theorem isTy_dict_tup {b : List D} : isTy "dict" (.tup b) = .ok false := by unfold isTy tyNm; simp only [kb_tuple_dict]
@[simp] theorem isTy_dict_dic {k : List Key} {b : List D} : isTy "dict" (.dic k b) = .ok true := by unfold isTy tyNm; simp only [kb_dict_dict]
@[simp] theorem isTy_dict_dit {k : List (List Key)} {b : List D} : isTy "dict" (.dit k b) = .ok true := by unfold isTy tyNm; simp only [kb_dict_dict]
@[simp] theorem trD_bl {b : Bool} : trD (.bl b) = .ok b := rfl
@[simp] theorem trD_non : trD .non = .ok false := rfl
@[simp] theorem trD_int {i : Int} : trD (.int i) = .ok (i != 0) := rfl
@[simp] theorem trD_lst {xs : List D} : trD (.lst xs) = .ok (!xs.isEmpty) := rfl
@[simp] theorem trD_frl {xs : List D} : trD (.frl xs) = .ok (!xs.isEmpty) := rfl
@[simp] theorem trD_tup {xs : List D} : trD (.tup xs) = .ok (!xs.isEmpty) := rfl
@[simp] theorem dIsi_ap {T : String} : dIsi T d = (isTy T d).bind fun b => .ok (.bl b) := rfl
@[simp] theorem dIsi2_ap {T U : String} : dIsi2 T U d = (isTy T d).bind fun b => if b = true then .ok (.bl true) else (isTy U d).bind fun c => .ok (.bl c) := rfl
end
end Da
namespace Da
open PySem PySem.Spec L2
/-- a turn's end: N goes on, Q is wanted of what leaves the loop -/
def Turn (N : Env → Prop) (Q : Res Fl → Prop) : Res Fl → Prop
  | .ok (.nx ρ) => N ρ
  | .ok (.ct ρ) => N ρ
  | .ok (.bk ρ) => Q (.ok (.nx ρ))
  | .ok (.rt d) => Q (.ok (.rt d))
  | .ok (.xc c fs ρ) => Q (.ok (.xc c fs ρ))
  | .ex _ _ => False
  | .er => False
@[simp] theorem Turn_nx {N : Env → Prop} {Q : Res Fl → Prop} {ρ : Env} : Turn N Q (.ok (.nx ρ)) = N ρ := rfl
@[simp] theorem Turn_ct {N : Env → Prop} {Q : Res Fl → Prop} {ρ : Env} : Turn N Q (.ok (.ct ρ)) = N ρ := rfl
@[simp] theorem Turn_bk {N : Env → Prop} {Q : Res Fl → Prop} {ρ : Env} : Turn N Q (.ok (.bk ρ)) = Q (.ok (.nx ρ)) := rfl
@[simp] theorem Turn_rt {N : Env → Prop} {Q : Res Fl → Prop} {d : D} : Turn N Q (.ok (.rt d)) = Q (.ok (.rt d)) := rfl
@[simp] theorem rng_length {lo : Int} {n : Nat} : (rng lo n).length = n := by unfold rng; rw [List.length_map, List.length_range]
theorem fFor_ap {it : Env → Res (List D)} {g : D → Env → Res Env} {F : FS} {ρ : Env} {xs : List D} (h : it ρ = .ok xs) : fFor it g F ρ = forGo g F xs ρ := by unfold fFor; rw [h]; rfl
@[simp] theorem startE_one {n : Nat} {a : D} : startE (n + 1) [a] = some a :: List.replicate n none := by simp [startE]
@[simp] theorem startE_two {n : Nat} {a b : D} : startE (n + 2) [a, b] = some a :: some b :: List.replicate n none := by simp [startE]
@[simp] theorem chk_one {f : List D → Res D} {a : D} : chk 1 f [a] = f [a] := rfl
@[simp] theorem chk_two {f : List D → Res D} {a b : D} : chk 2 f [a, b] = f [a, b] := rfl
@[simp] theorem chk_three {f : List D → Res D} {a b c : D} : chk 3 f [a, b, c] = f [a, b, c] := rfl
@[simp] theorem chk_four {f : List D → Res D} {a b c d : D} : chk 4 f [a, b, c, d] = f [a, b, c, d] := rfl
@[simp] theorem gLstD_nil : gLstD [] = .ok (.lst []) := rfl
@[simp] theorem gLstD_cons {d : D} {ds : List D} (h : ds.length < 100000 := by decide) : gLstD (d :: ds) = .ok (.lst (d :: ds)) := by
  unfold gLstD
  rw [if_pos (by rw [List.length_cons]; omega)]
theorem dIx_lst {xs : List D} {i : Int} {d : D} (h : atI xs i = some d) : dIx (.lst xs) (.int i) = .ok d := by simp only [dIx, h]
theorem dIx_tup {xs : List D} {i : Int} {d : D} (h : atI xs i = some d) : dIx (.tup xs) (.int i) = .ok d := by simp only [dIx, h]
theorem dIx_frl {xs : List D} {i : Int} {d : D} (h : atI xs i = some d) : dIx (.frl xs) (.int i) = .ok d := by simp only [dIx, h]
end Da
namespace Da
open PySem PySem.Spec L2
def F_law_whole : FS := (fRet (fBv (fAnd (fB (f1 (dIsi "int") (fV 0))) (fB (fBv (fNot (fB (f1 (dIsi "bool") (fV 0)))))))))
def m_law_whole : List D → Res D := runF 1 .sh F_law_whole
def F_law_cell : FS := (fSeq (fIfS (fB (f2 dLt (fV 1) (fOn (on1 dLen) (fA (fV 0) fA0)))) (fRet (f2 dIx (fV 0) (fV 1))) fNext)
    (fSeq (fSet 2 (fC (.int 17)))
    (fSeq (fFor (fL (fV 0)) (gN 3) (fSet 2 (f2 dMod (fOn (on1 dInt) (fA (f2 dAdd (f2 dMul (fV 2) (fC (.int 31))) (f2 dMod (fOn (on1 dInt) (fA (fV 3) fA0)) (fC (.int 1000003)))) fA0)) (fC (.int 1000003)))))
    (fRet (f2 dMod (fOn (on1 dInt) (fA (f2 dMul (f2 dMul (f2 dAdd (fV 2) (fC (.int 7))) (f2 dAdd (fV 1) (fC (.int 3)))) (fC (.int 69621))) fA0)) (fC (.int 2147483647)))))))
def m_law_cell : List D → Res D := runF 4 .sh F_law_cell
def F_law_digits : FS := (fSeq (fSet 2 (fOn gLstD fA0))
    (fSeq (fSet 3 (fOn (on1 dInt) (fA (fV 0) fA0)))
    (fSeq (fIfS (fB (f2 dGe (fV 3) (f2 dPow (fC (.int 10)) (fC (.int 18))))) (fSeq (fSet 3 (f2 dSub (fV 3) (f2 dPow (fC (.int 10)) (fC (.int 18)))))
    (fSeq (fFor (fL (fV 1)) (gN 6) (fSeq (fApp 2 (f2 dMod (fOn (on1 dInt) (fA (fV 3) fA0)) (fV 6)))
    (fSet 3 (f2 dDiv (fOn (on1 dInt) (fA (fV 3) fA0)) (fV 6)))))
    (fRet (fV 2)))) fNext)
    (fSeq (fSet 4 (f2 dMod (fOn (on1 dInt) (fA (fV 3) fA0)) (fC (.int 2147483629))))
    (fSeq (fFor (fR1 (fA (fOn (on1 dLen) (fA (fV 1) fA0)) fA0)) (gN 5) (fSeq (fSet 4 (f2 dMod (fOn (on1 dInt) (fA (f2 dAdd (f2 dAdd (f2 dMul (fV 4) (fC (.int 48271))) (f2 dMul (fC (.int 974711)) (fV 5))) (fC (.int 12345))) fA0)) (fC (.int 2147483647))))
    (fSeq (fSet 7 (f2 dMod (fOn (on1 dInt) (fA (f2 dMul (fV 4) (f2 dAdd (f2 dDiv (fV 4) (fC (.int 65537))) (fC (.int 3)))) fA0)) (fC (.int 2147483629))))
    (fApp 2 (f2 dMod (f2 dDiv (fV 7) (fC (.int 19))) (f2 dIx (fV 1) (fV 5)))))))
    (fRet (fV 2)))))))
def m_law_digits : List D → Res D := runF 8 .ow F_law_digits
/-- a row of digits below the sizes -/
def Digs (sizes row : List Int) : Prop := row.length = sizes.length ∧ ∀ (i : Nat) (s r : Int), sizes[i]? = some s → row[i]? = some r → 0 ≤ r ∧ r < s
theorem Digs.snoc {sizes row : List Int} {n : Nat} {s r : Int} (h : Digs (sizes.take n) row) (hs : sizes[n]? = some s) (h0 : 0 ≤ r) (h1 : r < s) : Digs (sizes.take (n + 1)) (row ++ [r]) := by
  obtain ⟨hl, hd⟩ := h
  have hn := (List.getElem?_eq_some_iff.mp hs).1
  rw [List.length_take, Nat.min_eq_left (by omega)] at hl
  refine ⟨by rw [List.length_append, List.length_take, hl, Nat.min_eq_left (by omega)]; rfl, fun i s' r' e1 e2 => ?_⟩
  rw [List.getElem?_take] at e1
  split at e1
  · rename_i hi
    by_cases hin : i < n
    · exact hd i s' r' (by rw [List.getElem?_take, if_pos hin]; exact e1) (by rw [List.getElem?_append_left (by omega)] at e2; exact e2)
    · have : i = n := by omega
      subst this
      rw [hs] at e1
      cases e1
      rw [← hl, List.getElem?_concat_length] at e2
      cases e2
      exact ⟨h0, h1⟩
  · cases e1
end Da
namespace Da
open PySem PySem.Spec L2
/-- the data of the slots vs forgotten -/
def wipeD (ρ : Env) : List Nat → Env
  | [] => ρ
  | v :: vs => (wipeD ρ vs).set v none
/-- the items of a comprehension -/
def lcGo (g : D → Env → Res Env) (c : Env → Res Bool) (f : Env → Res D) (ρ : Env) : List D → Res (List D)
  | [] => .ok []
  | x :: xs => match g x ρ with
    | .ok ρ1 => (match c ρ1 with
      | .ok b => if b = true then (match f ρ1 with
        | .ok y => (match lcGo g c f ρ xs with
          | .ok ys => .ok (y :: ys)
          | _ => .er)
        | _ => .er) else lcGo g c f ρ xs
      | _ => .er)
    | _ => .er
def asLst (r : Res (List D)) : Res D := match r with
  | .ok ys => .ok (.lst ys)
  | _ => .er
def fLc (vs : List Nat) (it : Env → Res (List D)) (g : D → Env → Res Env) (c : Env → Res Bool) (f : Env → Res D) : Env → Res D := fun ρ => (it ρ).bind fun xs => if szOk xs.length = true then asLst (lcGo g c f (wipeD ρ vs) xs) else .er
def fYes : Env → Res Bool := fun _ => .ok true
def EF : WX := fun _ _ _ _ => False
theorem takesF {X : Cx} : Takes X EF := fun _ _ x => by
  obtain ⟨_, _, _, _, _, _, _, _, _, _, _, _, z⟩ := x
  exact z.2.2.2.2.elim
structure JTs (X : Cx) (E : WX) (m : Mds) (es : List Expr) (f : Env → Res Bool) : Prop where
  pt : PTs X es (tT X.K X.mg E m f)
section
variable {K : PySem.W.Frag} {mg : Str → Option Value} {m : Mds} {F : Nat → List Addr} {S S' H H' : Hp} {σ : L2.St} {ρ : Env}
theorem EnvF.wipe (h : EnvF K mg m F S H σ ρ) : ∀ vs : List Nat, EnvF K mg m F S H (L2.wipe σ vs) (wipeD ρ vs)
  | [] => h
  | v :: vs => by
    have ih := EnvF.wipe h vs
    have key : ∀ {j : Nat} {d : D}, ((wipeD ρ vs).set v none)[j]? = some (some d) → j ≠ v ∧ (wipeD ρ vs)[j]? = some (some d) := fun {j d} ej => by
      by_cases hj : v = j
      · subst hj
        rw [List.getElem?_set, if_pos rfl] at ej
        split at ej <;> cases ej
      · rw [List.getElem?_set_ne hj] at ej
        exact ⟨fun z => hj z.symm, ej⟩
    unfold L2.wipe wipeD
    refine ⟨by rw [List.length_set, List.length_set]; exact ih.len, fun i d e => ?_, fun i d e => ih.nd i d (key e).2, fun i j d e hij e1 e2 => ih.apart i j d e hij (key e1).2 (key e2).2⟩
    obtain ⟨w, e1, o⟩ := ih.at_ i d (key e).2
    exact ⟨w, by rw [List.getElem?_set_ne (Ne.symm (key e).1)]; exact e1, o⟩
theorem EnvM.wipe (h : EnvM K mg m S H σ ρ) (vs : List Nat) : EnvM K mg m S H (L2.wipe σ vs) (wipeD ρ vs) := by
  obtain ⟨hs, F, h⟩ := h
  exact ⟨hs, F, h.wipe vs⟩
/-- slots as of a body that nothing was before -/
theorem EnvM.bare (h : EnvM K mg m S H σ ρ) : ∃ F, StF K mg m (fun _ => none) (fun _ => none) S F σ ρ H := by
  obtain ⟨hs, F, h⟩ := h
  exact ⟨F, ⟨(fun _ _ e => nomatch e), (fun _ _ e => nomatch e), hs, (fun _ _ => .inr rfl)⟩, h, (fun _ _ _ _ _ => rfl)⟩
theorem wipe_at {vs : List Nat} {j : Nat} : (L2.wipe σ vs)[j]? = if j ∈ vs ∧ j < σ.length then some none else σ[j]? := by
  induction vs with
  | nil => simp [L2.wipe]
  | cons v vs ih =>
    unfold L2.wipe
    rw [List.getElem?_set, L2.wipe_length, ih]
    by_cases hv : v = j
    · subst hv
      by_cases hl : v < σ.length
      · simp [hl]
      · simp [hl]
    · have : ¬ j = v := fun z => hv z.symm
      simp [hv, this]
theorem wipe_eq {σ' : L2.St} {vs ts : List Nat} (hl : σ'.length = σ.length) (hj : ∀ j, j ∉ ts → σ'[j]? = (L2.wipe σ vs)[j]?) (hts : ∀ t ∈ ts, t ∈ vs) : L2.wipe σ' vs = L2.wipe σ vs := by
  refine List.ext_getElem? fun j => ?_
  rw [wipe_at, wipe_at, hl]
  by_cases hv : j ∈ vs
  · by_cases hlt : j < σ.length
    · rw [if_pos ⟨hv, hlt⟩, if_pos ⟨hv, hlt⟩]
    · rw [if_neg (fun z => hlt z.2), if_neg (fun z => hlt z.2), List.getElem?_eq_none (by omega), List.getElem?_eq_none (by omega)]
  · rw [if_neg (fun z => hv z.1), if_neg (fun z => hv z.1)]
    have := hj j (fun z => hv (hts j z))
    rw [wipe_at, if_neg (fun z => hv z.1)] at this
    exact this
/-- a hidden new object is written -/
theorem Step.write {p : Addr} {o : HO} (st : Step S H S' H') (hs : S' p = none) (hp : H p = none) : Step S H S' (upd H' p o) := by
  refine ⟨fun b x e => ?_, st.ss, fun b x e => ?_, st.new⟩
  · rw [upd_ne (ne_of_none e hp)]
    exact st.hh b x e
  · rw [upd_ne (ne_of_none e hs)]
    exact st.sub b x e
end
section
variable {K : PySem.W.Frag} {mg : Str → Option Value} {E : WX} {m : Mds} {it : Env → Res (List D)} {g : D → Env → Res Env} {c : Env → Res Bool} {f : Env → Res D} {ts vs : List Nat}
/-- the list under way: its items so far, what is still to come -/
def LcW (K : PySem.W.Frag) (mg : Str → Option Value) (g : D → Env → Res Env) (c : Env → Res Bool) (f : Env → Res D) (ρ : Env) (xs ys : List D) (D0 : Addr) (S1 H1 : Hp) (i : Nat) (H : Hp) : Prop :=
  ∃ S2 ws ds rest, Step S1 H1 S2 H ∧ S2 D0 = none ∧ H D0 = some (.lst ws) ∧ RepL K mg S2 ws ds ∧ lcGo g c f ρ (xs.drop i) = .ok rest ∧ ys = ds ++ rest ∧ ds.length ≤ i
theorem lc_ok {σ : L2.St} {H : Hp} {Q : VK} (hts : ∀ t ∈ ts, t ∈ vs) (h : tE K mg E m .ow (fLc vs it g c f) σ H Q) :
    tLc (tI K mg E m it) (tGD K mg m ts g) (tT K mg EF m c) (tE K mg EF m .sh f) vs σ H Q := by
  obtain ⟨S, ρ, hm, hp⟩ := h
  refine ⟨S, ρ, hm, (Post.bind hp).imp fun xs S1 H1 s1 k J w D0 hD => ?_⟩
  split at k
  · rename_i hz
    have hz := szOk_ok hz
    unfold asLst at k
    split at k
    · rename_i ys eg
      refine ⟨fun i n H => n = xs.length - i ∧ i ≤ xs.length ∧ LcW K mg g c f (wipeD ρ vs) xs ys D0 S1 H1 i H, ⟨xs.length, by simp, Nat.zero_le _, S1, [], [], ys, Step.hid s1.sub hD, s1.sub.free hD, upd_same, .nil, eg, rfl, Nat.le_refl _⟩, ?_⟩
      rintro i n H2 ⟨rfl, hi, S2, ws, ds, rest, st2, hs2, hd2, rv, el, ey, hn⟩
      by_cases hlt : i < xs.length
      · obtain ⟨hgo, hyl⟩ := w.go i xs[i] S2 H2 (List.getElem?_eq_getElem hlt) st2.ss st2.sub
        refine .inr ⟨hgo, LcW K mg g c f (wipeD ρ vs) xs ys D0 S1 H1 (i + 1), fun H' z => ⟨xs.length - (i + 1), by omega, rfl, hlt, z⟩, fun x H3 y => ?_⟩
        obtain ⟨S3, s3, r3⟩ := hyl x H3 y
        rw [List.drop_eq_getElem_cons hlt] at el
        unfold lcGo at el
        split at el
        · rename_i ρ1 eg1
          have st3 := st2.trans s3
          obtain ⟨F, stF⟩ := (((hm.step s1).step st3).wipe vs).bare
          refine ⟨_, _, S3, F, wipeD ρ vs, xs[i], stF, r3, ?_⟩
          rw [eg1]
          intro σ4 S4 F4 H4 st4 s4 hfr
          refine ⟨wipe_eq (by rw [hfr.1, L2.wipe_length]) hfr.2 hts, S4, ρ1, st4.envM, ?_⟩
          split at el
          · rename_i b ec
            rw [ec]
            intro S5 H5 s5
            have a5 := (s3.trans s4).trans s5
            have st5 := st2.trans a5
            have hd5 := a5.hh _ _ hd2
            have hs5 := a5.out hs2 hd2
            cases b with
            | false =>
              rw [if_neg (by decide)] at el
              show LcW K mg g c f (wipeD ρ vs) xs ys D0 S1 H1 (i + 1) H5
              exact ⟨S5, ws, ds, rest, st5, hs5, hd5, rv.mono a5.ss, el, ey, by omega⟩
            | true =>
              rw [if_pos rfl] at el
              show tE K mg EF m Md.sh f σ4 H5 _
              split at el
              · rename_i y' ef
                refine ⟨S5, ρ1, (st4.envM).step s5, ?_⟩
                rw [ef]
                intro v S6 H6 fp s6 o _ _
                have a6 := a5.trans s6
                split at el
                · rename_i rest' er
                  cases el
                  refine ⟨ws, a6.hh _ _ hd2, by rw [rv.len]; omega, S6, ws ++ [v], ds ++ [y'], rest', (st2.trans a6).write (a6.out hs2 hd2) hD, a6.out hs2 hd2, upd_same, (rv.mono a6.ss).snoc o.1, er, by rw [ey]; simp, by rw [List.length_append]; simp; omega⟩
                · cases el
              · cases el
          · cases el
        · cases el
      · have e : i = xs.length := by omega
        subst e
        rw [List.drop_length] at el
        cases el
        rw [List.append_nil] at ey
        subst ey
        exact .inl ⟨w.stop S2 H2 st2.ss st2.sub, k _ S2 H2 [D0] st2 ⟨D0, ws, _, rfl, rfl, rfl, hs2, hd2, rv⟩ (by simp) (fun a z => by
          have : a = D0 := by simpa using z
          rw [this]; exact hD)⟩
    · exact k.elim
  · exact k.elim
end
section
variable {X : Cx} {E : WX} {L : Lp} {m : Mds} {ts : List Nat} {N0 ps0 : List Str} {sc0 : Scope} {elt tg iter e : Expr} {ifs : List Expr} {scope : Scope} {own : List (Str × Nat)} {pos : Pos} {it : Env → Res (List D)} {g : D → Env → Res Env} {c : Env → Res Bool} {f : Env → Res D}
theorem jts_nil : JTs X E m [] fYes := ⟨⟨fun pins s σ H Q I q => pts_nil.run pins s σ H Q I (by
  obtain ⟨S, ρ, hm, hp⟩ := q
  exact hp S H (Step.refl hm.1))⟩⟩
theorem jts_one (h : JT X E m e c) : JTs X E m [e] c := ⟨pts_one h.pt⟩
theorem je_lc (Sc : FnScope N0 ps0 sc0) (own : List (Str × Nat)) (hi : JI X E m tg iter it)
    (hg : ∀ (s : Shared) (H : Hp) (C : Addr) (cl : List (Str × Addr)) (fp : List Addr), JG (X.blk s H scope (compEnvC scope cl C X.env) fp) m ts tg g) (ht : ∀ (s : Shared) (H : Hp) (C : Addr) (cl : List (Str × Addr)) (fp : List Addr), JTs (X.blk s H scope (compEnvC scope cl C X.env) fp) EF m ifs c)
    (he : ∀ (s : Shared) (H : Hp) (C : Addr) (cl : List (Str × Addr)) (fp : List Addr), JE (X.blk s H scope (compEnvC scope cl C X.env) fp) EF m .sh elt f) (hc : X.calm = true := by rfl) (hN0 : X.N = N0 := by rfl) (hsc : X.env.scope = sc0 := by rfl) (ok : blkC N0 sc0 scope own = true := by decide +kernel) (hts : ∀ t ∈ ts, t ∈ own.map (·.2) := by decide)
    (hs : ∀ x, foldedSetIterable iter X.env x = pure x := by intro _; rfl) : JE X E m .ow (.ListComp elt [⟨tg, iter, ifs, 0⟩] scope pos) (fLc (own.map (·.2)) it g c f) :=
  ⟨PEimp (pe_lc (g := tGD X.K X.mg m ts g) (tt := tT X.K X.mg EF m c) (te := tE X.K X.mg EF m .sh f) hc (by rw [hN0]; exact Sc.nd) hi.pi (blkOk_by (by rw [hN0, hsc]; exact ok)) (fun s H C cl fp => (hg s H C cl fp).pg) (fun s H C cl fp => (ht s H C cl fp).pt) (fun s H C cl fp => (he s H C cl fp).pe) hs) fun σ H Q h => lc_ok hts h⟩
/-- .. within another comprehension's block -/
theorem je_lcB {scO : Scope} (Sc : FnScope N0 ps0 sc0) (own : List (Str × Nat)) (hi : JI X E m tg iter it)
    (hg : ∀ (s : Shared) (H : Hp) (C : Addr) (cl : List (Str × Addr)) (fp : List Addr), JG (X.blk s H scope (compEnvC scope cl C X.env) fp) m ts tg g) (ht : ∀ (s : Shared) (H : Hp) (C : Addr) (cl : List (Str × Addr)) (fp : List Addr), JTs (X.blk s H scope (compEnvC scope cl C X.env) fp) EF m ifs c)
    (he : ∀ (s : Shared) (H : Hp) (C : Addr) (cl : List (Str × Addr)) (fp : List Addr), JE (X.blk s H scope (compEnvC scope cl C X.env) fp) EF m .sh elt f) (hc : X.calm = true := by rfl) (hN0 : X.N = N0 := by rfl) (hsc : X.env.scope = relS scO sc0 := by rfl) (ok : blkC N0 (relS scO sc0) scope own = true := by decide +kernel) (hts : ∀ t ∈ ts, t ∈ own.map (·.2) := by decide)
    (hs : ∀ x, foldedSetIterable iter X.env x = pure x := by intro _; rfl) : JE X E m .ow (.ListComp elt [⟨tg, iter, ifs, 0⟩] scope pos) (fLc (own.map (·.2)) it g c f) :=
  ⟨PEimp (pe_lc (g := tGD X.K X.mg m ts g) (tt := tT X.K X.mg EF m c) (te := tE X.K X.mg EF m .sh f) hc (by rw [hN0]; exact Sc.nd) hi.pi (blkOk_by (by rw [hN0, hsc]; exact ok)) (fun s H C cl fp => (hg s H C cl fp).pg) (fun s H C cl fp => (ht s H C cl fp).pt) (fun s H C cl fp => (he s H C cl fp).pe) hs) fun σ H Q h => lc_ok hts h⟩
theorem js_setLc (i : Nat) {y : Str} {py spos : Pos} (Sc : FnScope N0 ps0 sc0) (own : List (Str × Nat)) (hi : JI X E m tg iter it)
    (hg : ∀ (s : Shared) (H : Hp) (C : Addr) (cl : List (Str × Addr)) (fp : List Addr), JG (X.blk s H scope (compEnvC scope cl C X.env) fp) m ts tg g) (ht : ∀ (s : Shared) (H : Hp) (C : Addr) (cl : List (Str × Addr)) (fp : List Addr), JTs (X.blk s H scope (compEnvC scope cl C X.env) fp) EF m ifs c)
    (he : ∀ (s : Shared) (H : Hp) (C : Addr) (cl : List (Str × Addr)) (fp : List Addr), JE (X.blk s H scope (compEnvC scope cl C X.env) fp) EF m .sh elt f) (hl : i < m.length := by first | decide | simp) (hc : X.calm = true := by rfl) (hy : X.N[i]? = some y := by rfl) (hyl : X.env.scope.names.lookup y = some .local := by rfl)
    (hsw : swapsWith (.ListComp elt [⟨tg, iter, ifs, 0⟩] scope pos) (some (.Name y py)) spos.line X.env = pure true := by rfl) (hN0 : X.N = N0 := by rfl) (hsc : X.env.scope = sc0 := by rfl) (ok : blkC N0 sc0 scope own = true := by decide +kernel) (hts : ∀ t ∈ ts, t ∈ own.map (·.2) := by decide)
    (hs : ∀ x, foldedSetIterable iter X.env x = pure x := by intro _; rfl) : JS X E L m (m.set i .ow) (.Assign [.Name y py] (.ListComp elt [⟨tg, iter, ifs, 0⟩] scope pos) spos) (fSet i (fLc (own.map (·.2)) it g c f)) := by
  refine ⟨PSimp (ps_setLc (g := tGD X.K X.mg m ts g) (tt := tT X.K X.mg EF m c) (te := tE X.K X.mg EF m .sh f) hc (by rw [hN0]; exact Sc.nd) hy hyl hsw hi.pi (blkOk_by (by rw [hN0, hsc]; exact ok)) (fun s H C cl fp => (hg s H C cl fp).pg) (fun s H C cl fp => (ht s H C cl fp).pt) (fun s H C cl fp => (he s H C cl fp).pe) hs) fun D σ H h => ?_⟩
  obtain ⟨S0, H0, ρ, ⟨S, Fp, st⟩, p⟩ := h
  refine lc_ok hts ⟨S, ρ, st.envM, (lift_post st p).postM fun d v S1 H1 fp s1 o hn hf k => ?_⟩
  refine k _ _ (StF.stM ((st.step s1).set hl o hn (fun a ha => st.1.hh.free (hf a ha)) fun j e' hj ej a ha z => ?_))
  obtain ⟨w, _, o'⟩ := st.2.1.at_ j e' ej
  obtain ⟨_, u, hu⟩ := o'.out ha
  rw [hf a z] at hu
  cases hu
end
end Da
namespace Da
open PySem PySem.Spec L2
def D.en (d : D) : PyData := (D.py d).getD .none
def leD (x y : D) : Bool := PySem.W.dataLe false D.en x y
def SrtOk (ds : List D) : Prop := (∃ bs, D.pys ds = some bs) ∧ PySem.W.AllAlike (ds.map D.en) ∧ PySem.W.Sortable (ds.map D.en) ∧ ∀ d ∈ ds, d.en.depth ≤ 20
def srtOk (ds : List D) : Bool := stuck (SrtOk ds)
def dSorted : D → Res D
  | .lst ds => if srtOk ds = true then .ok (.lst (ds.mergeSort leD)) else .er
  | .tup ds => if srtOk ds = true then .ok (.lst (ds.mergeSort leD)) else .er
  | .frl ds => if srtOk ds = true then .ok (.lst (ds.mergeSort leD)) else .er
  | _ => .er
theorem pys_some : ∀ {ds : List D} {bs : List PyData}, D.pys ds = some bs → bs = ds.map D.en ∧ ∀ d ∈ ds, D.py d = some d.en
  | [], bs, e => by cases e; exact ⟨rfl, fun d h => nomatch h⟩
  | d :: ds, bs, e => by
    unfold D.pys at e
    split at e
    · rename_i y ys e1 e2
      cases e
      obtain ⟨h1, h2⟩ := pys_some e2
      have hy : d.en = y := by unfold D.en; rw [e1]; rfl
      refine ⟨by rw [List.map_cons, ← h1, hy], fun d' hd => ?_⟩
      rcases List.mem_cons.mp hd with rfl | hd
      · rw [hy]; exact e1
      · exact h2 d' hd
    · cases e
mutual
theorem reads_off {h : Heap} {a : Addr} (ha : h.get? a = none) : ∀ (d : PyData) (v : Value) (as : List Addr), PySem.W.alike d d = true → Reads h v d as → a ∉ as
  | .none, _, _, _, r => by cases r; simp
  | .bool _, _, _, _, r => by cases r; simp
  | .int _, _, _, _, r => by cases r; simp
  | .str _, _, _, _, r => by cases r; simp
  | .list xs, _, _, hal, r => by
    cases r with
    | list h1 h2 h3 h4 =>
      rw [List.mem_cons, not_or]
      exact ⟨fun e => by rw [e, h1] at ha; (cases ha), readsAll_off ha xs _ _ (by simpa [PySem.W.alike] using hal) h4⟩
  | .tuple xs, _, _, hal, r => by
    cases r with
    | tuple h1 h2 h3 h4 => exact readsAll_off ha xs _ _ (by simpa [PySem.W.alike] using hal) h4
  | .dict _, _, _, hal, _ => absurd hal (by simp [PySem.W.alike])
theorem readsAll_off {h : Heap} {a : Addr} (ha : h.get? a = none) : ∀ (ds : List PyData) (vs : List Value) (as : List Addr), PySem.W.alikeAll ds ds = true → ReadsAll h vs ds as → a ∉ as
  | [], _, _, _, r => by cases r; simp
  | d :: ds, _, _, hal, r => by
    cases r with
    | cons h1 h2 =>
      rw [List.mem_append, not_or]
      exact ⟨reads_off ha d _ _ (PySem.W.alike_all_cons hal).1 h1, readsAll_off ha ds _ _ (PySem.W.alike_all_cons hal).2 h2⟩
end
section
variable {prog : Program} {w : World} {A : Around} {Er : Value → Shared → Prop} {s : Shared} {β : Type} {its : List Value} {bs : List β} {enc : β → PyData} {R : Value → β → Prop}
theorem sorted_seq {l : Addr} {T : String} {o : Obj} {n : Nat} {Q : Value → Shared → Prop} (hT : T = "list" ∨ T = "tuple") (ho : s.heap.get? l = some o) (hc : o.cls = .type T) (hd : o.data = .seq its.toArray n) (hz : its.length ≤ sizeLine)
    (e : PySem.W.EachIs R its bs) (er : PySem.W.EachIs (fun v b => ∃ as, Reads s.heap v (enc b) as) its bs) (hal : PySem.W.AllAlike (bs.map enc)) (hk : PySem.W.Sortable (bs.map enc)) (hu : ∀ b, b ∈ bs → A.units + 8 + (enc b).depth < cLine)
    (h : ∀ (h1 h2 : Heap) (out : List Value) (ep : Nat), (∀ b o, s.heap.get? b = some o → h1.get? b = some o) → (∀ b o, h1.get? b = some o → h2.get? b = some o) → h2.get? h1.objs.size = some (PyProof.Rows.seqObj "list" (List.toArray out) ep) → PySem.W.EachIs R out (bs.mergeSort (PySem.W.dataLe false enc)) → Q (.ref h1.objs.size) { s with heap := h2 }) :
    wpAny (model prog w) A (call (.builtin "sorted") [.ref l]) Q Er s := by
  refine Calls.call_function_entry PyProof.Rows.kind_sorted PyProof.Rows.plain_sorted PyProof.Rows.entry_sorted (PyProof.Rows.args_sorted1 _) ?_
  unfold Builtin.«sorted»
  refine wpAny_bind (m := checkCount "sorted" 1 1 _) (wpAny_pure ?_)
  refine wpAny_bind (wpAny_collect_seq l hT ho hc hd (fun h1 k1 => ?_) (by rw [List.size_toArray]; exact hz))
  have hl : bs.length ≤ sizeLine := by rw [← e.length]; exact hz
  refine wpAny_bind (wpAny_newList ?_ hz)
  have hS : (h1.push { cls := .type "list", data := .seq its.toArray }).get? h1.objs.size = some (PyProof.Rows.seqObj "list" its.toArray 0) := Heap.get?_push_size _ rfl
  have k2 : ∀ b o, h1.get? b = some o → (h1.push { cls := .type "list", data := .seq its.toArray }).get? b = some o := fun b o q => Heap.get?_push_of_some _ q
  have off : h1.get? h1.objs.size = none := by
    cases q : h1.get? h1.objs.size with
    | none => rfl
    | some o => exact absurd (Heap.lt_size q) (Nat.lt_irrefl _)
  have er2 : PySem.W.EachIs (fun v b => ∃ as, Reads (h1.push { cls := .type "list", data := .seq its.toArray }) v (enc b) as ∧ h1.objs.size ∉ as) its bs :=
    (PySem.W.each_mem er).mono fun v b ⟨⟨as, r⟩, hb⟩ => by
      have r1 := PyProof.Rows.Reads.keeps k1 r
      exact ⟨as, PyProof.Rows.Reads.keeps k2 r1, reads_off off _ _ _ (hal _ (List.mem_map.mpr ⟨b, hb, rfl⟩) _ (List.mem_map.mpr ⟨b, hb, rfl⟩)) r1⟩
  refine wpAny_bind (wpAny_holding (PySem.W.list_sort_data (s := { s with heap := h1.push { cls := .type "list", data := .seq its.toArray } }) (a := h1.objs.size) hS e er2 hal hk hl (fun b hb => ?_) fun out _ ho2 => ?_))
  · have := hu b hb
    show A.units + _ + 1 + (enc b).depth < cLine
    omega
  · obtain ⟨ep, q⟩ := PyProof.Rows.sortedHeap_at (out := List.toArray out) hS
    refine wpAny_pure ⟨_, rfl, h h1 _ out ep k1 (fun b o q' => ?_) q ho2⟩
    have hlt := Heap.lt_size q'
    rw [PyProof.Rows.sortedHeap_old (Nat.ne_of_lt hlt) (by rw [Heap.size_push]; exact Nat.lt_succ_of_lt hlt)]
    exact k2 b o q'
end
/-- sorted(xs), of a list or a tuple -/
def rSortD (K : PySem.W.Frag) (mg : Str → Option Value) : List V → Hp → VK → Prop := fun vs H Q => ∃ (S : Hp) (a : Addr) (xs : List V) (ds : List D), vs = [V.ref a] ∧ (SqL K H a xs ∨ SqT K H a xs) ∧ Same S H ∧ RepL K mg S xs ds ∧ SrtOk ds ∧
  ∀ (p : Addr) (ys : List V), RepL K mg S ys (ds.mergeSort leD) → H p = none → Q (.ref p) (upd H p (.lst ys))
theorem each_zip {K : PySem.W.Frag} {mg : Str → Option Value} {S : Hp} : ∀ {xs : List V} {ds : List D} {us : List Value}, RepL K mg S xs ds → Vals xs us → PySem.W.EachIs (fun v (b : V × D) => RelV b.1 v) us (xs.zip ds)
  | [], _, _, _, .nil => .nil
  | x :: xs, [], _, h, _ => by have := h.len; simp at this
  | x :: xs, d :: ds, _, h, .cons r t => .cons r (each_zip h.tail t)
theorem each_out : ∀ {us : List Value} {zs : List (V × D)}, PySem.W.EachIs (fun v (b : V × D) => RelV b.1 v) us zs → Vals (zs.map (·.1)) us
  | _, _, .nil => .nil
  | _, _, .cons h t => .cons h (each_out t)
theorem zip_snd {α β : Type} : ∀ {xs : List α} {ds : List β}, xs.length = ds.length → (xs.zip ds).map (·.2) = ds
  | [], [], _ => rfl
  | [], _ :: _, h => by simp at h
  | _ :: _, [], h => by simp at h
  | x :: xs, d :: ds, h => by rw [List.zip_cons_cons, List.map_cons, zip_snd (by simpa using h)]
section
variable {X : Cx} {E : WX} {m : Mds} {e : Expr} {fs : Env → Res (List D)} {p pos : Pos}
theorem cr_sortD (hu : X.A.units + 40 < cLine) : CallR X (.builtin "sorted") (rSortD X.K X.mg) := by
  intro pins s σ H vs us Q I r h
  obtain ⟨S, a, xs, ds, rfl, hq, hS, rv, ⟨⟨bs, eb⟩, hal, hso, hdp⟩, q⟩ := h
  obtain ⟨u, rfl, ru⟩ := Vals.one r
  cases ru
  have main : ∀ (T : String) (o : Obj) (its : List Value) (n : Nat), (T = "list" ∨ T = "tuple") → s.heap.get? a = some o → o.cls = .type T → o.data = .seq its.toArray n → xs.length ≤ sizeLine → Vals xs its → wpAny (model X.prog X.w) X.A (call (.builtin "sorted") [.ref a]) (EP X pins σ Q) X.xe s := by
    intro T o its n hT ho hc hd hz vv
    obtain ⟨eqb, hpy⟩ := pys_some eb
    have zs := zip_snd rv.len
    have e1 := each_zip rv vv
    have e2 : PySem.W.EachIs (fun v (b : V × D) => ∃ as, Reads s.heap v b.2.en as) its (xs.zip ds) := (PySem.W.each_mem e1).mono fun v b ⟨hr, hb⟩ => by
      obtain ⟨i, hi⟩ := List.mem_iff_getElem?.mp hb
      rw [List.getElem?_zip_eq_some] at hi
      exact Dp.reads I b.2.en b.1 v (dp_mono hS (dp_of b.2 b.1 _ (rv.at_ i b.1 b.2 hi.1 hi.2) (hpy _ (List.mem_of_getElem? hi.2)))) hr
    have em : (xs.zip ds).map (fun b => b.2.en) = ds.map D.en := by
      rw [show (fun b : V × D => b.2.en) = D.en ∘ (·.2) from rfl, ← List.map_map, zs]
    refine sorted_seq (enc := fun b : V × D => b.2.en) hT ho hc hd (by rw [← vv.length]; exact hz) e1 e2 (by rw [em]; exact hal) (by rw [em]; exact hso) (fun b hb => ?_) fun h1 h2 out ep k1 k2 hp ho2 => ?_
    · have := hdp b.2 (by rw [← zs]; exact List.mem_map.mpr ⟨b, hb, rfl⟩)
      omega
    · have I1 : Inv X pins σ H { s with heap := h1 } := I.kept (t' := s.toks) k1
      generalize hzs : (xs.zip ds).mergeSort (PySem.W.dataLe false fun b => b.2.en) = zs2 at ho2
      have pm : zs2.Perm (xs.zip ds) := by rw [← hzs]; exact List.mergeSort_perm _ _
      have es : zs2.map (·.2) = ds.mergeSort leD := by
        have q1 := List.map_mergeSort (r := PySem.W.dataLe false fun b : V × D => b.2.en) (s := leD) (f := fun b : V × D => b.2) (l := xs.zip ds) (fun a _ b _ => rfl)
        rw [← hzs, q1, zs]
      have rz : RepL X.K X.mg S (zs2.map (·.1)) (ds.mergeSort leD) := by
        rw [← es]
        refine ⟨by rw [List.length_map, List.length_map], fun i v d a b => ?_⟩
        rw [List.getElem?_map] at a b
        cases ez : zs2[i]? with
        | none => rw [ez] at a; cases a
        | some c =>
          rw [ez] at a b
          cases a; cases b
          obtain ⟨j, hj⟩ := List.mem_iff_getElem?.mp (pm.mem_iff.mp (List.mem_of_getElem? ez))
          rw [List.getElem?_zip_eq_some] at hj
          exact rv.at_ j _ _ hj.1 hj.2
      have hl : (zs2.map (·.1)).length ≤ sizeLine := by
        rw [rz.len, List.length_mergeSort, ← rv.len]
        exact hz
      exact ⟨.ref _, upd H h1.objs.size (.lst (zs2.map (·.1))), I1.laid (t' := s.toks) k2 (Nat.le_refl _) ⟨hl, out, ep, each_out ho2, hp⟩, rfl, q _ _ rz (I1.hok.fresh (Nat.le_refl _))⟩
  rcases hq with hq | hq
  · obtain ⟨its, vv, ⟨o, n, ho, hc, _, hd⟩, hz⟩ := I.list hq
    exact main "list" o its n (.inl rfl) ho hc hd hz vv
  · obtain ⟨its, vv, ⟨o, ho, hc, n, hd⟩, hz⟩ := I.tuple hq
    exact main "tuple" o its n (.inr rfl) ho hc hd hz vv
theorem je_sorted (hr : RmU X.A) (hm : X.mg "sorted" = none) (ha : JA X E m [e] fs) (hg : Gl X "sorted" := by rfl) (he : starEach [e] X.env = (false, eval e X.env) :: starEach [] X.env := by rfl) : JE X E m .ow (.Call (.Name "sorted" p) [e] [] pos) (fOn (on1 dSorted) fs) :=
  je_callB (cr_sortD (by unfold RmU at hr; omega)) (calld1 fun E S H x d Q hs rx hp => by
    cases d with
    | lst xs =>
      obtain ⟨hz, hp⟩ := Post.of_if hp
      obtain ⟨a, vs, rfl, ha, rv⟩ := rx.of_lst
      exact ⟨S, a, vs, xs, rfl, .inl (.inl (.inl (hs _ _ ha))), hs, rv, stuck_iff.mp hz, fun p ys ry hl => Post.list (.inr rfl) hp hs ry hl⟩
    | frl xs =>
      obtain ⟨hz, hp⟩ := Post.of_if hp
      obtain ⟨a, vs, rfl, ha, rv⟩ := rx.of_frl
      exact ⟨S, a, vs, xs, rfl, .inl (same_l hs ha), hs, rv, stuck_iff.mp hz, fun p ys ry hl => Post.list (.inr rfl) hp hs ry hl⟩
    | tup xs =>
      obtain ⟨hz, hp⟩ := Post.of_if hp
      obtain ⟨a, vs, rfl, ha, rv⟩ := rx.of_tup
      exact ⟨S, a, vs, xs, rfl, .inr (same_t hs ha), hs, rv, stuck_iff.mp hz, fun p ys ry hl => Post.list (.inr rfl) hp hs ry hl⟩
    | _ => exact hp.elim) hm ha hg (by decide +kernel) (by decide) (by decide) he (by rfl)
end
end Da
namespace Da
open PySem PySem.Spec L2
theorem enum_new {v : Value} {o : Obj} {G : Heap → Prop} (B : Begins v o G) :
    Meets (Builtin.«enumerate.__new__» ⟨[.type "enumerate", v], []⟩) (fun _ R s => G s.heap ∧
      R (.ok (.ret (.ref (s.heap.push o).objs.size))) { s with heap := (s.heap.push o).push { cls := .type "enumerate", data := .fields #[.none, .bool false, .ref s.heap.objs.size, rawInt 0, .none, .none] } }) :=
  .of_wp fun prog w A R s hh => by
    obtain ⟨hp, g, d, tk, os⟩ := s
    obtain ⟨hg, hh⟩ := hh
    have hsb := sub_enumerate
    have walk : ∀ {A' : Around} {Er : Value → Shared → Prop} {Qv : Value → Shared → Prop}, Qv (.ref hp.objs.size) ⟨hp.push o, g, d, tk, os⟩ → wpAny (model prog w) A' (pyIter v) Qv Er ⟨hp, g, d, tk, os⟩ := fun q => B.iter prog w _ _ ⟨hp, g, d, tk, os⟩ _ hg q
    wp_walk using walk
    refine wpAny_stack_any fun stk => wpAny_pure ?_
    split
    · rename_i c _ _ _ _ _
      cases (c == Value.type "enumerate") <;> (wp_walk using walk; exact ⟨_, rfl, hh⟩)
    · wp_walk using walk; exact ⟨_, rfl, hh⟩
theorem call_enumT {prog : Program} {w : World} {A : Around} {Er : Value → Shared → Prop} {s : Shared} {t : Addr} {items : Array Value} {Q : Value → Shared → Prop} (ht : s.heap.IsTuple t items)
    (h : ∀ h', IsEnum h' (s.heap.objs.size + 1) s.heap.objs.size 0 .none → h'.IsTupleIter s.heap.objs.size t 0 → (∀ b o, s.heap.get? b = some o → h'.get? b = some o) → Q (.ref (s.heap.objs.size + 1)) { s with heap := h' }) :
    wpAny (model prog w) A (call (.type "enumerate") [.ref t]) Q Er s := by
  refine callType_new F.called_enumerate (by decide) (F.typeCall_enumerate_1 _) (F.newCall_enumerate_1 _) (fun obj => F.args_object_init_2 obj _) F.entry_enumerate_new (enum_new (begins_tuple t items)) ⟨ht, ?_⟩
  have hz : (s.heap.push { cls := .type "tuple_iterator", data := .fields #[.ref t, .int 0 0] }).objs.size = s.heap.objs.size + 1 := Heap.size_push ..
  show _ ∧ _
  rw [hz]
  have he : IsEnum ((s.heap.push { cls := .type "tuple_iterator", data := .fields #[.ref t, .int 0 0] }).push { cls := .type "enumerate", data := .fields #[.none, .bool false, .ref s.heap.objs.size, rawInt 0, .none, .none] }) (s.heap.objs.size + 1) s.heap.objs.size 0 .none := by
    have q := Heap.get?_push_size (s.heap.push { cls := .type "tuple_iterator", data := .fields #[.ref t, .int 0 0] }) (o := { cls := .type "enumerate", data := .fields #[.none, .bool false, .ref s.heap.objs.size, rawInt 0, .none, .none] }) rfl
    rw [hz] at q
    exact q
  exact ⟨⟨_, he, rfl⟩, h _ he ⟨_, Heap.get?_push_of_some _ (Heap.get?_push_size _ rfl), rfl, rfl⟩ fun b o x => Heap.get?_push_of_some _ (Heap.get?_push_of_some _ x)⟩
/-- the tuple at a, each item in a new pair -/
def IteT (K : PySem.W.Frag) (a : Addr) : It :=
  ⟨fun i H => ∃ (xs : List V) (x : V), SqT K H a xs ∧ xs[i]? = some x, fun i H v H' => ∃ T x, v = .ref T ∧ H T = none ∧ H' = upd H T (.tup [.int (i : Nat), x]) ∧ ∀ xs, SqT K H a xs → xs[i]? = some x, fun i H => ∃ xs : List V, SqT K H a xs ∧ xs.length ≤ i⟩
theorem turn_enumT {P : Program} {w : World} {K : PySem.W.Frag} {elts : List Expr} {kk : Nat} {tpos : Pos} (a e it : Addr) :
    L2.Turn P w K (.Tuple elts kk tpos) (IteT K a) [e, it] e (fun i h => (∃ old, IsEnum h e it ((i : Nat) : Int) old) ∧ h.IsTupleIter it a i ∧ e ≠ it) where
  mem := by simp
  obj := fun i h st b hb => by
    obtain ⟨⟨old, he⟩, ⟨o, ho, hc, hd⟩, _⟩ := st
    rcases (show b = e ∨ b = it by simpa using hb) with z | z
    · rw [z]; exact ⟨_, he, fun v q => nomatch q⟩
    · rw [z]; exact ⟨o, ho, fun v q => by rw [hd] at q; cases q⟩
  keep := fun i h h' st k => let ⟨⟨old, he⟩, hi, hne⟩ := st; ⟨⟨old, k e (by simp) _ he⟩, hi.at fun o q => k it (by simp) o q, hne⟩
  item := by
    intro X hP hw hK hc i pins s σ H Er I hf st hg
    subst hP hw hK
    obtain ⟨⟨old, he⟩, hit, hne⟩ := st
    obtain ⟨xs, x, hq, hx⟩ := hg
    obtain ⟨its, rv, p, hz⟩ := I.tuple hq
    obtain ⟨u, hu, ru⟩ := rv.get hx
    have hel : e < s.heap.objs.size := Heap.lt_size he
    have hil : it < s.heap.objs.size := by obtain ⟨_, q, _⟩ := hit; exact Heap.lt_size q
    have ht : s.heap.IsTuple a its.toArray := p
    have hea : e ≠ a := fun z => by
      obtain ⟨o, ho, hco, _⟩ := ht
      rw [← z, he] at ho
      cases ho
      exact absurd (show Value.type "enumerate" = Value.type "tuple" from hco) (by decide)
    have hia : a ≠ it := fun z => by
      obtain ⟨o, ho, hco, _⟩ := ht
      obtain ⟨o2, ho2, hc2, _⟩ := hit
      rw [z, ho2] at ho
      cases ho
      rw [hc2] at hco
      exact absurd hco (by decide)
    have hlt : i < its.toArray.size := by
      rw [List.size_toArray]
      exact (List.getElem?_eq_some_iff.mp hu).1
    refine wpAny_pyNext_enum_itemD (Draws.tuple (A := X.A.in1) (I.ok.hd hc) it a hia its.toArray) he ⟨hit, ht⟩ hlt hne (by simp [hne, hea]) fun y h' tk hy ho hst hT hsz hk => ?_
    have hyu : y = u := by
      have q : its[i]? = some y := by simpa using hy
      rw [hu] at q
      injection q with q
      exact q.symm
    subst hyu
    refine ⟨_, rfl, wpAny_letOwnedTupleGo_enum (s := { s with heap := h', toks := tk + 1 }) ho fun h'' he' sb => ?_⟩
    have hT2 : h''.get? s.heap.objs.size = some { cls := .type "tuple", data := .seq #[.int i tk, y] } := (sb.2 _ (Nat.ne_of_gt hel)).trans hT
    have new : ObjOk X.prog X.w (upd H s.heap.objs.size (.tup [.int (i : Nat), x])) h'' s.heap.objs.size (.tup [.int (i : Nat), x]) :=
      ⟨by show 2 ≤ sizeLine; decide, [.int i tk, y], .cons ⟨_, rfl⟩ (.cons ru .nil), ⟨_, hT2, rfl, _, rfl⟩⟩
    have I1 : Inv X pins σ (upd H s.heap.objs.size (.tup [.int (i : Nat), x])) { s with heap := h'', toks := tk + 1 } :=
      I.turnedNew (ch := [e, it]) (fun b ob hb q => (sb.2 b (fun z => hb (by simp [z]))).trans (hk b ob (fun z => hb (by simp [z])) (fun z => hb (by simp [z])) q)) hf (Nat.le_refl _) new
    refine ⟨.ref s.heap.objs.size, _, I1, rfl, ⟨_, x, rfl, I.hok.fresh (Nat.le_refl _), rfl, fun ys hy => by rw [I.tuple_inj hy hq]; exact hx⟩, ⟨⟨y, ?_⟩, hst.1.at fun o q => (sb.2 it (Ne.symm hne)).trans q, hne⟩, fun b hb => ?_⟩
    · rw [show ((i + 1 : Nat) : Int) = (i : Int) + 1 by omega]
      exact he'
    · have hlt2 : b < s.heap.objs.size := by
        rcases (show b = e ∨ b = it by simpa using hb) with z | z
        · rw [z]; exact hel
        · rw [z]; exact hil
      rw [upd_ne (Nat.ne_of_lt hlt2)]
      exact (hf b hb).1
  done := by
    intro X hP hw hK hc i pins s σ H Er I hf st hg
    subst hP hw hK
    obtain ⟨⟨old, he⟩, hit, hne⟩ := st
    obtain ⟨xs, hq, hx⟩ := hg
    obtain ⟨its, rv, p, hz⟩ := I.tuple hq
    have hl := rv.length
    have ht : s.heap.IsTuple a its.toArray := p
    obtain ⟨f0, f1, f2, f3, f4, f5⟩ := hf it (by simp)
    have hT : s.TypeIs (.ref e) "enumerate" := ⟨_, he, rfl⟩
    unfold pyNext
    refine wpAny_bind (wpAny_attempt (wpAny_callSpecial?_slot (name := Str.ofString "__next__") hT F.slot_enumerate_next (wpAny_call_entry F.slot_enumerate_next hT F.entry_enumerate_next ?_ (F.args_enumerate_next_1 _))))
    show wpAny _ _ (field (.ref e) 2 >>= _) _ _ _
    refine wpAny_bind (wpAny_field he rfl (x := .ref it) rfl (wpAny_bind (wpAny_nextOf_tuple_end (I.ok.hd hc) hit ht (by simp; omega) fun h' x hx1 hx2 => ?_)))
    obtain ⟨o, ho, hco⟩ := hx2
    exact wpAny_bind (wpAny_isInstance (T := "StopIteration") (b := true) ⟨o, ho, hco⟩ isSubtype_stop (wpAny_pure ⟨rfl, I.turned (t' := s.toks) (fun b o hb q => hx1 b o hb q) f0 f1 f3 f4 f5⟩))
  self := fun A i s Q Er st h => let ⟨⟨_, he⟩, _⟩ := st; wpAny_pyIter_enum he h
def iEnumA (K : PySem.W.Frag) (ta : TA) : TI := fun σ H R => ta σ H fun vs H1 => ∃ a xs, vs = [.ref a] ∧ (SqL K H1 a xs ∧ R (Ite K a) H1 ∨ SqT K H1 a xs ∧ R (IteT K a) H1)
theorem pi_enumA {X : Cx} {e : Expr} {ta : TA} {p pos tpos : Pos} {elts : List Expr} {kk : Nat} (hg : Gl X "enumerate") (hm : X.mg "enumerate" = none) (ha : PA X [e] ta) (hs : starEach [e] X.env = [(false, eval e X.env)] := by rfl) :
    PI X (.Tuple elts kk tpos) (.Call (.Name "enumerate" p) [e] [] pos) (iEnumA X.K ta) := by
  refine ⟨fun pins s σ H R I h => PyProof.Rows.Call_ (ld_blt I hg hm PyProof.Rows.boot_enumerate (PyProof.Rows.callWith_type1 (thn (ha.run pos pins s σ H _ I h) fun us s1 ⟨vs, H1, I1, r1, q1⟩ => ?_) hs rfl))⟩
  obtain ⟨a, xs, rfl, q1⟩ := q1
  obtain ⟨u, rfl, ru⟩ := Vals.one r1
  cases ru
  have fresh : ∀ b, b ∈ [s1.heap.objs.size + 1, s1.heap.objs.size] → FpOk X pins H1 b := fun b hb => by
    have hle : s1.heap.objs.size ≤ b := by
      rcases (show b = s1.heap.objs.size + 1 ∨ b = s1.heap.objs.size by simpa using hb) with z | z
      · rw [z]; exact Nat.le_add_right _ _
      · rw [z]; exact Nat.le_refl _
    exact I1.fpOk hle (I1.hok.fresh hle)
  rcases q1 with ⟨hq, q⟩ | ⟨hq, q⟩
  · obtain ⟨its, rv, pl, _⟩ := I1.list hq
    refine call_enumerate_list pl.isList fun h' he hit _ hk => wpAny_pyIter_enum he ?_
    exact ⟨_, _, _, _, H1, rfl, I1.kept (t' := s1.toks) hk, turn_enum a (s1.heap.objs.size + 1) s1.heap.objs.size, ⟨⟨.none, he⟩, hit, Nat.succ_ne_self _⟩, fresh, q⟩
  · obtain ⟨its, rv, pl, _⟩ := I1.tuple hq
    refine call_enumT (show s1.heap.IsTuple a its.toArray from pl) fun h' he hit hk => wpAny_pyIter_enum he ?_
    exact ⟨_, _, _, _, H1, rfl, I1.kept (t' := s1.toks) hk, turn_enumT a (s1.heap.objs.size + 1) s1.heap.objs.size, ⟨⟨.none, he⟩, hit, Nat.succ_ne_self _⟩, fresh, q⟩
def tGsD (K : PySem.W.Frag) (mg : Str → Option Value) (m : Mds) (ts : List Nat) (g : List D → Env → Res Env) : TGs := fun vs σ H Q => ∃ S0 H0 S F ρ ds, StF K mg m S0 H0 S F σ ρ H ∧ RepL K mg S vs ds ∧ (match g ds ρ with
  | .ok ρ1 => ∀ σ1 S1 F1 H1, StF K mg m S0 H0 S1 F1 σ1 ρ1 H1 → Step S H S1 H1 → (σ1.length = σ.length ∧ ∀ j, j ∉ ts → σ1[j]? = σ[j]?) → Q σ1 H1
  | _ => False)
structure JGs (X : Cx) (m : Mds) (ts : List Nat) (es : List Expr) (g : List D → Env → Res Env) : Prop where
  pgs : PGs X es (tGsD X.K X.mg m ts g)
def gs0 : List D → Env → Res Env := fun ds ρ => match ds with
  | [] => .ok ρ
  | _ => .er
def gsC (g : D → Env → Res Env) (r : List D → Env → Res Env) : List D → Env → Res Env := fun ds ρ => match ds with
  | d :: ds => (match g d ρ with
    | .ok ρ1 => r ds ρ1
    | _ => .er)
  | [] => .er
def gT (r : List D → Env → Res Env) : D → Env → Res Env := fun d ρ => match d with
  | .tup ds => r ds ρ
  | _ => .er
section
variable {X : Cx} {E : WX} {m : Mds} {ts us : List Nat} {tg e : Expr} {es elts : List Expr} {g : D → Env → Res Env} {r : List D → Env → Res Env} {fs : Env → Res (List D)} {p pos tpos : Pos} {kk : Nat}
theorem jgs_nil : JGs X m [] [] gs0 := by
  refine ⟨⟨fun pins s σ H vs uv Q I rv h => pgs_nil.run pins s σ H vs uv Q I rv ?_⟩⟩
  obtain ⟨S0, H0, S, F, ρ, ds, st, rd, q⟩ := h
  match ds, rd, q with
  | [], rd, q => exact ⟨rd.nil_iff.mpr rfl, q σ S F H st (Step.refl st.1.sub) ⟨rfl, fun _ _ => rfl⟩⟩
  | _ :: _, _, q => exact q.elim
theorem jgs_cons (h1 : JG X m ts e g) (h2 : JGs X m us es r) (hs : (assignEach (e :: es) X.env).map (·.2) = assign e X.env :: (assignEach es X.env).map (·.2) := by rfl) : JGs X m (ts ++ us) (e :: es) (gsC g r) := by
  refine ⟨⟨fun pins s σ H vs uv Q I rv h => (pgs_cons h1.pg h2.pgs hs).run pins s σ H vs uv Q I rv ?_⟩⟩
  obtain ⟨S0, H0, S, F, ρ, ds, st, rd, q⟩ := h
  match ds, rd, q with
  | [], _, q => exact q.elim
  | d :: ds, rd, q =>
    match vs, rd with
    | [], rd => have := rd.len; simp at this
    | v :: vs, rd =>
      refine ⟨v, vs, rfl, S0, H0, S, F, ρ, d, st, rd.head, ?_⟩
      unfold gsC at q
      simp only at q
      cases eg : g d ρ with
      | ok ρ1 =>
        rw [eg] at q
        simp only at q
        refine fun σ1 S1 F1 H1 st1 s1 fr1 => ⟨S0, H0, S1, F1, ρ1, ds, st1, rd.tail.mono s1.ss, ?_⟩
        cases er : r ds ρ1 with
        | ok ρ2 =>
          rw [er] at q
          refine fun σ2 S2 F2 H2 st2 s2 fr2 => q σ2 S2 F2 H2 st2 (s1.trans s2) ⟨fr2.1.trans fr1.1, fun j hj => ?_⟩
          rw [List.mem_append, not_or] at hj
          exact (fr2.2 j hj.2).trans (fr1.2 j hj.1)
        | ex c fs => rw [er] at q; exact q.elim
        | er => rw [er] at q; exact q.elim
      | ex c fs => rw [eg] at q; exact q.elim
      | er => rw [eg] at q; exact q.elim
/-- (a, b, ..) takes a tuple of that length -/
theorem jg_tup (h : JGs X m ts es r) (hr : ∀ ds ρ ρ1, r ds ρ = .ok ρ1 → ds.length = es.length) (hc : X.calm = true := by rfl) (hn : (assignEach es X.env).length = es.length := by rfl) (hst : (assignEach es X.env).findIdx? (·.1) = none := by rfl) : JG X m ts (.Tuple es kk tpos) (gT r) := by
  refine ⟨⟨fun pins s σ H v u Q I rv hq => (pg_tup hc h.pgs hn hst).run pins s σ H v u Q I rv ?_⟩⟩
  obtain ⟨S0, H0, S, F, ρ, d, st, rd, q⟩ := hq
  cases d with
  | tup ds =>
    obtain ⟨a, vs, rfl, ha, rs⟩ := rd.of_tup
    have q : (match r ds ρ with
      | .ok ρ1 => ∀ σ1 S1 F1 H1, StF X.K X.mg m S0 H0 S1 F1 σ1 ρ1 H1 → Step S H S1 H1 → (σ1.length = σ.length ∧ ∀ j, j ∉ ts → σ1[j]? = σ[j]?) → Q σ1 H1
      | _ => False) := q
    cases er : r ds ρ with
    | ok ρ1 => exact ⟨a, vs, rfl, same_t st.1.sub ha, by rw [rs.len]; exact hr ds ρ ρ1 er, S0, H0, S, F, ρ, ds, st, rs, q⟩
    | ex c fs => rw [er] at q; exact q.elim
    | er => rw [er] at q; exact q.elim
  | _ => exact q.elim
theorem gs0_len (ds : List D) (ρ ρ1 : Env) (h : gs0 ds ρ = .ok ρ1) : ds.length = 0 := by
  cases ds with
  | nil => rfl
  | cons d ds => cases h
theorem gsC_len {n : Nat} {g : D → Env → Res Env} {r : List D → Env → Res Env} (hr : ∀ ds ρ ρ1, r ds ρ = .ok ρ1 → ds.length = n) (ds : List D) (ρ ρ1 : Env) (h : gsC g r ds ρ = .ok ρ1) : ds.length = n + 1 := by
  cases ds with
  | nil => cases h
  | cons d ds =>
    unfold gsC at h
    simp only at h
    split at h
    · rw [List.length_cons, hr ds _ _ h]
    · cases h
theorem jg_tup2 {a b : Expr} {ga gb : D → Env → Res Env} (h1 : JG X m ts a ga) (h2 : JG X m us b gb) (hc : X.calm = true := by rfl) (ha : (assignEach [a, b] X.env).map (·.2) = assign a X.env :: (assignEach [b] X.env).map (·.2) := by rfl) (hb : (assignEach [b] X.env).map (·.2) = assign b X.env :: (assignEach [] X.env).map (·.2) := by rfl)
    (hn : (assignEach [a, b] X.env).length = 2 := by rfl) (hst : (assignEach [a, b] X.env).findIdx? (·.1) = none := by rfl) : JG X m (ts ++ (us ++ [])) (.Tuple [a, b] kk tpos) (gT (gsC ga (gsC gb gs0))) :=
  jg_tup (jgs_cons h1 (jgs_cons h2 jgs_nil hb) ha) (gsC_len (gsC_len gs0_len)) hc hn hst
def enumD (i : Nat) : List D → List D
  | [] => []
  | x :: xs => .tup [.int (i : Nat), x] :: enumD (i + 1) xs
theorem enumD_length : ∀ {xs : List D} {i : Nat}, (enumD i xs).length = xs.length
  | [], _ => rfl
  | x :: xs, i => by unfold enumD; rw [List.length_cons, List.length_cons, enumD_length]
theorem enumD_at : ∀ {xs : List D} {i j : Nat}, (enumD i xs)[j]? = (xs[j]?).map fun x => .tup [.int ((i + j : Nat) : Int), x]
  | [], _, _ => by simp [enumD]
  | x :: xs, i, 0 => by simp [enumD]
  | x :: xs, i, j + 1 => by
    unfold enumD
    rw [List.getElem?_cons_succ, List.getElem?_cons_succ, enumD_at, show i + 1 + j = i + (j + 1) by omega]
def dEnum : List D → Res (List D)
  | [d] => (asL d).bind fun xs => .ok (enumD 0 xs)
  | _ => .er
def fEnum (fs : Env → Res (List D)) : Env → Res (List D) := fun ρ => (fs ρ).bind dEnum
theorem walk_e {K : PySem.W.Frag} {mg : Str → Option Value} {S : Hp} {a : Addr} {vs : List V} {ds : List D} (r : RepL K mg S vs ds) (h : SqL K S a vs) : WalkD K mg (Ite K a) S (enumD 0 ds) where
  go := fun i d S1 H1 e s1 s2 => by
    rw [enumD_at, Nat.zero_add] at e
    cases ed : ds[i]? with
    | none => rw [ed] at e; cases e
    | some d0 =>
      rw [ed] at e
      cases e
      obtain ⟨v, ev, rv⟩ := r.get ed
      refine ⟨⟨vs, v, same_l s2 (same_l s1 h), ev⟩, fun x H2 ⟨T, y, e1, hT, e2, hy⟩ => ?_⟩
      subst e1 e2
      have := hy vs (same_l s2 (same_l s1 h))
      rw [ev] at this
      cases this
      have st := Step.laid (o := HO.tup [.int (i : Nat), v]) s2 hT
      exact ⟨_, st, Rep.tupL upd_same (.cons (.int _) (.cons ((rv.mono s1).mono st.ss) .nil))⟩
  stop := fun S1 H1 s1 s2 => ⟨vs, same_l s2 (same_l s1 h), by rw [enumD_length]; exact Nat.le_of_eq r.len⟩
theorem walk_eT {K : PySem.W.Frag} {mg : Str → Option Value} {S : Hp} {a : Addr} {vs : List V} {ds : List D} (r : RepL K mg S vs ds) (h : SqT K S a vs) : WalkD K mg (IteT K a) S (enumD 0 ds) where
  go := fun i d S1 H1 e s1 s2 => by
    rw [enumD_at, Nat.zero_add] at e
    cases ed : ds[i]? with
    | none => rw [ed] at e; cases e
    | some d0 =>
      rw [ed] at e
      cases e
      obtain ⟨v, ev, rv⟩ := r.get ed
      refine ⟨⟨vs, v, same_t s2 (same_t s1 h), ev⟩, fun x H2 ⟨T, y, e1, hT, e2, hy⟩ => ?_⟩
      subst e1 e2
      have := hy vs (same_t s2 (same_t s1 h))
      rw [ev] at this
      cases this
      have st := Step.laid (o := HO.tup [.int (i : Nat), v]) s2 hT
      exact ⟨_, st, Rep.tupL upd_same (.cons (.int _) (.cons ((rv.mono s1).mono st.ss) .nil))⟩
  stop := fun S1 H1 s1 s2 => ⟨vs, same_t s2 (same_t s1 h), by rw [enumD_length]; exact Nat.le_of_eq r.len⟩
theorem dEnum_ok {ds xs : List D} (h : dEnum ds = .ok xs) : ∃ d ys, ds = [d] ∧ asL d = .ok ys ∧ xs = enumD 0 ys := by
  unfold dEnum at h
  split at h
  · rename_i d
    cases e : asL d with
    | ok ys => rw [e] at h; cases h; exact ⟨d, ys, rfl, e, rfl⟩
    | ex c fs => rw [e] at h; cases h
    | er => rw [e] at h; cases h
  · cases h
theorem asL_ex {d : D} {c : Str} {fs : List (Str × D)} : asL d ≠ .ex c fs := by
  cases d <;> exact fun z => nomatch z
theorem dEnum_ex {ds : List D} {c : Str} {fs : List (Str × D)} : dEnum ds ≠ .ex c fs := by
  unfold dEnum
  split
  · rename_i d
    cases e : asL d with
    | ok ys => exact fun z => nomatch z
    | ex c fs => exact absurd e asL_ex
    | er => exact fun z => nomatch z
  · exact fun z => nomatch z
theorem ji_enum (ha : JA X E m [e] fs) (hm : X.mg "enumerate" = none) (hg : Gl X "enumerate" := by rfl) (hs : starEach [e] X.env = [(false, eval e X.env)] := by rfl) : JI X E m (.Tuple elts kk tpos) (.Call (.Name "enumerate" p) [e] [] pos) (fEnum fs) := by
  refine ⟨⟨fun pins s σ H R I h => (pi_enumA hg hm ha.pa hs).run pins s σ H R I ?_⟩⟩
  obtain ⟨S, ρ, hm, hp⟩ := h
  refine ⟨S, ρ, hm, (PostW.bind hp).imp fun ds S1 H1 s1 k vs rv => ?_⟩
  obtain ⟨xs, e, k⟩ := PostW.okOf k fun _ _ => dEnum_ex
  obtain ⟨d, ys, rfl, ey, rfl⟩ := dEnum_ok e
  obtain ⟨v, rfl, rd⟩ := repl1 rv
  cases d with
  | lst xs =>
    cases ey
    obtain ⟨a, vs, rfl, ha, rv⟩ := rd.of_lst
    exact ⟨a, vs, rfl, .inl ⟨.inl (.inl (s1.sub _ _ ha)), k S1 H1 (Step.refl s1.sub) _ (walk_e rv (.inl (.inl ha)))⟩⟩
  | frl xs =>
    cases ey
    obtain ⟨a, vs, rfl, ha, rv⟩ := rd.of_frl
    exact ⟨a, vs, rfl, .inl ⟨same_l s1.sub ha, k S1 H1 (Step.refl s1.sub) _ (walk_e rv ha)⟩⟩
  | tup xs =>
    cases ey
    obtain ⟨a, vs, rfl, ha, rv⟩ := rd.of_tup
    exact ⟨a, vs, rfl, .inr ⟨same_t s1.sub ha, k S1 H1 (Step.refl s1.sub) _ (walk_eT rv ha)⟩⟩
  | _ => cases ey
end
end Da
namespace Da
open PySem PySem.Spec L2
def tX (K : PySem.W.Frag) (mg : Str → Option Value) (m : Mds) (f : Env → Res (D × Env)) : TE := fun σ H Q => ∃ S0 H0 S F ρ, StF K mg m S0 H0 S F σ ρ H ∧ (match f ρ with
  | .ok (d, ρ1) => ∀ v S1 F1 H1, Same S S1 → StF K mg m S0 H0 S1 F1 σ ρ1 H1 → Rep K mg S1 v d → Q v H1
  | _ => False)
structure JX (X : Cx) (m : Mds) (e : Expr) (f : Env → Res (D × Env)) : Prop where
  pe : PE X e (tX X.K X.mg m f)
def fPop (i : Nat) (f : Env → Res D) : Env → Res (D × Env) := fun ρ => match ρ[i]? with
  | some (some (.lst xs)) => (match f ρ with
    | .ok (.int z) => (match ixN xs.length z with
      | some k => (match xs[k]? with
        | some y => if szOk xs.length = true then .ok (y, ρ.set i (some (.lst (xs.eraseIdx k)))) else .er
        | none => .er)
      | none => .er)
    | _ => .er)
  | _ => .er
def fAppX (i : Nat) (f : Env → Res (D × Env)) : FS := fun ρ => match ρ[i]? with
  | some (some (.lst _)) => (match f ρ with
    | .ok (d, ρ1) => (match ρ1[i]? with
      | some (some (.lst xs)) => if szOk (xs.length + 1) = true then .ok (.nx (ρ1.set i (some (.lst (xs ++ [d]))))) else .er
      | _ => .er)
    | _ => .er)
  | _ => .er
theorem Same.ref_eq {a b : Addr} {σ : L2.St} {i : Nat} (h : σ[i]? = some (some (V.ref a))) (k : σ[i]? = some (some (V.ref b))) : b = a := by
  rw [h] at k
  injection k with z; injection z with z; injection z with z
  exact z.symm
theorem ix_fits {n : Nat} {z : Int} {k : Nat} (h : ixN n z = some k) (hn : n ≤ sizeLine) : -(2 ^ 63) ≤ z ∧ z < 2 ^ 63 := by
  obtain ⟨_, _, h1, h2⟩ := ixN_seq h
  rw [sizeLine_eq] at hn
  omega
section
variable {X : Cx} {E : WX} {L : Lp} {m : Mds} {e : Expr} {f : Env → Res D} {fx : Env → Res (D × Env)} {x : Str} {pos p1 p2 p3 : Pos}
theorem jx_pop (i : Nat) (he : JE X EF m .sh e f) (hmd : IsOw (mdAt m i) := by first | exact .inl rfl | exact .inr ⟨_, rfl⟩) (hl : i < m.length := by first | decide | simp) (hN : X.N[i]? = some x := by rfl) (hv : Vis X.env.scope x := by first | exact Or.inl rfl | exact Or.inr (Or.inl rfl) | exact Or.inr (Or.inr rfl))
    (hd : (x == ("__debug__" : Str)) = false := by decide) (hcd : (x == ("__classdict__" : Str)) = false := by decide)
    (hpe : ∀ {to te : TE}, PE X (.Name x p1) to → PE X e te → PE X (.Call (.Attribute (.Name x p1) "pop" p2) [e] [] p3) (tBM X.K "list" rPopAt to (tCons te tNil)) := by
      intro to te ho he
      exact pe_bm PySem.F.plainAttrs_list PySem.F.slot_list_pop PySem.F.type_list_pop mt_popAt ho (pa_cons he pa_nil)) :
    JX X m (.Call (.Attribute (.Name x p1) "pop" p2) [e] [] p3) (fPop i f) := by
  refine ⟨⟨fun pins s σ H Q I h => (hpe (pe_var hN hv hd hcd) he.pe).run pins s σ H Q I ?_⟩⟩
  obtain ⟨S0, H0, S, Fp, ρ, st, p⟩ := h
  unfold fPop at p
  split at p
  · rename_i d ρ1 er
    split at er
    · rename_i xs exs
      obtain ⟨pa, vs, ds, eds, e1, e2, e3, e4, e5⟩ := st.own hmd exs
      cases eds
      refine ⟨_, e2, .inl ⟨rfl, vs, .inl (.inl e4)⟩, S, ρ, st.envM, ?_⟩
      split at er
      · rename_i z ez
        rw [ez]
        intro v S1 H1 fp s1 o _ _
        cases o.1
        split at er
        · rename_i k ek
          split at er
          · rename_i y ey
            split at er
            rotate_left
            · cases er
            rename_i hz0
            cases er
            obtain ⟨qa, ws, ds1, eds, q1, q2, q3, q4, q5⟩ := (st.step s1).own hmd exs
            cases eds
            obtain rfl := Same.ref_eq e2 q2
            obtain ⟨w, ew, rw'⟩ := q5.get ey
            obtain ⟨b1, b2⟩ := ix_fits ek (szOk_ok hz0)
            exact ⟨_, ws, z, k, w, rfl, rfl, q4, b1, b2, by rw [q5.len]; exact (ixN_seq ek).1, ew, p w S1 Fp _ s1.ss ((st.step s1).write hl hmd exs q1 q2 q3 q4 (q5.eraseIdx k)) rw'⟩
          · cases er
        · cases er
      · cases er
    · cases er
  · exact p.elim
theorem js_appX (i : Nat) (he : JX X m e fx) (hmd : IsOw (mdAt m i) := by first | exact .inl rfl | exact .inr ⟨_, rfl⟩) (hl : i < m.length := by first | decide | simp) (hN : X.N[i]? = some x := by rfl) (hv : Vis X.env.scope x := by first | exact Or.inl rfl | exact Or.inr (Or.inl rfl) | exact Or.inr (Or.inr rfl))
    (hd : (x == ("__debug__" : Str)) = false := by decide) (hcd : (x == ("__classdict__" : Str)) = false := by decide)
    (hs : swapsWith (.Call (.Attribute (.Name x p1) "append" p2) [e] [] p3) none pos.line X.env = pure false := by rfl)
    (hpe : ∀ {to te : TE}, PE X (.Name x p1) to → PE X e te → PE X (.Call (.Attribute (.Name x p1) "append" p2) [e] [] p3) (tBM X.K "list" rAppend to (tCons te tNil)) := by
      intro to te ho he
      exact pe_bm PySem.F.plainAttrs_list PySem.F.slot_list_append PySem.F.type_list_append mt_append ho (pa_cons he pa_nil)) :
    JS X E L m m (.Expr (.Call (.Attribute (.Name x p1) "append" p2) [e] [] p3) pos) (fAppX i fx) := by
  refine ⟨PSimp (ps_expr (hpe (pe_var hN hv hd hcd) he.pe) hs) fun D σ H h => ?_⟩
  obtain ⟨S0, H0, ρ, ⟨S, Fp, st⟩, p⟩ := h
  unfold fAppX at p
  split at p
  · rename_i xs0 exs0
    obtain ⟨pa, vs, ds, eds, e1, e2, e3, e4, e5⟩ := st.own hmd exs0
    refine ⟨_, e2, .inl ⟨rfl, vs, .inl (.inl e4)⟩, S0, H0, S, Fp, ρ, st, ?_⟩
    split at p
    · rename_i d ρ1 er
      intro v S1 F1 H1 _ st1 rd
      split at p
      · rename_i xs exs
        split at p
        · rename_i hz
          obtain ⟨qa, ws, ds1, eds1, q1, q2, q3, q4, q5⟩ := st1.own hmd exs
          cases eds1
          obtain rfl := Same.ref_eq e2 q2
          exact ⟨_, ws, v, rfl, rfl, q4, by rw [q5.len]; exact szOk_lt hz, p _ _ (st1.write hl hmd exs q1 q2 q3 q4 (q5.snoc rd)).stM⟩
        · exact p.elim
      · exact p.elim
    · exact p.elim
  · exact p.elim
/-- tg = e: any target -/
def fAsg (f : Env → Res D) (g : D → Env → Res Env) : FS := fun ρ => lift (f ρ) ρ fun d => match g d ρ with
  | .ok ρ1 => .ok (.nx ρ1)
  | _ => .er
theorem js_asg {tg : Expr} {ts : List Nat} {g : D → Env → Res Env} (he : JE X E m .sh e f) (hg : JG X m ts tg g) (hs : swapsWithSole [tg] e pos.line X.env = pure false := by rfl) (hw : swappedStores [tg] e X.env = pure none := by rfl)
    (h1 : (assignEach [tg] X.env).map (·.2) = [assign tg X.env] := by rfl) : JS X E L m m (.Assign [tg] e pos) (fAsg f g) := by
  refine ⟨PSimp (ps_asg he.pe hg.pg hs hw h1) fun D σ H h => ?_⟩
  obtain ⟨S0, H0, ρ, ⟨S, Fp, st⟩, p⟩ := h
  refine ⟨S, ρ, st.envM, (lift_post st p).post fun d v S1 H1 s1 r k => ?_⟩
  refine ⟨S0, H0, S1, Fp, ρ, d, st.step s1, r, ?_⟩
  split at k
  · rename_i ρ1 eg
    try rw [eg]
    exact fun σ1 S2 F1 H2 st2 _ _ => k _ _ st2.stM
  · exact k.elim
end
end Da
namespace Da
open PySem PySem.Spec L2
/-- whole numbers from naturals -/
def nat (i : Nat) : D := .int (i : Int)
theorem rng_zero {n : Nat} : rng 0 n = (List.range n).map nat := by
  unfold rng
  refine List.map_congr_left fun i _ => ?_
  rw [Int.zero_add]
  rfl
@[simp] theorem rng0_length {lo : Int} {n : Nat} : (rng lo n).length = n := rng_length
@[simp] theorem dList_lst {xs : List D} : dList (.lst xs) = .ok (.lst xs) := rfl
@[simp] theorem dList_tup {xs : List D} : dList (.tup xs) = .ok (.lst xs) := rfl
@[simp] theorem dTuple_lst {xs : List D} : dTuple (.lst xs) = .ok (.tup xs) := rfl
@[simp] theorem dTuple_tup {xs : List D} : dTuple (.tup xs) = .ok (.tup xs) := rfl
@[simp] theorem fTupleR1_ap {f : Env → Res D} {ρ : Env} {j : Int} (h : f ρ = .ok (.int j)) (h0 : 0 ≤ j) (h1 : j ≤ 1000000) : fTupleR1 f ρ = .ok (.tup ((List.range j.toNat).map nat)) := by
  unfold fTupleR1
  rw [h]
  show (if rgnOk 0 j = true then Res.ok (D.tup (rng 0 (j - 0).toNat)) else .er) = _
  rw [if_pos (show rgnOk 0 j = true from stuck_iff.mpr ⟨stuck_iff.mpr (by omega), by omega⟩), rng_zero, Int.sub_zero]
@[simp] theorem wipeD_one {ρ : Env} {i : Nat} : wipeD ρ [i] = ρ.set i none := rfl
@[simp] theorem fSc_int {f : Env → Res D} {ρ : Env} {j : Int} (h : f ρ = .ok (.int j)) : fSc f ρ = .ok (.int j) := by unfold fSc; rw [h]; rfl
@[simp] theorem fNx_ok {α : Type} {f : Env → Res α} {ρ : Env} {d : α} (h : f ρ = .ok d) : fNx f ρ = .ok d := by unfold fNx; rw [h]
theorem pys_ints : ∀ ns : List Int, D.pys (ns.map D.int) = some (ns.map PyData.int)
  | [] => rfl
  | n :: ns => by
    rw [List.map_cons, List.map_cons]
    unfold D.pys
    rw [pys_ints ns]
    rfl
theorem en_ints {ns : List Int} : (ns.map D.int).map D.en = ns.map PyData.int := by
  rw [List.map_map]
  rfl
theorem srt_ints (ns : List Int) : SrtOk (ns.map D.int) := by
  refine ⟨⟨_, pys_ints ns⟩, ?_, ?_, fun d hd => ?_⟩
  · rw [en_ints]
    exact PySem.W.AllAlike.of fun _ _ => by simp [PySem.W.alike]
  · rw [en_ints]
    exact PySem.W.Sortable.others fun _ => ⟨(fun z => nomatch z), (fun xs z => nomatch z)⟩
  · obtain ⟨n, _, rfl⟩ := List.mem_map.mp hd
    show PyData.depth (.int n) ≤ 20
    simp [PyData.depth]
def leI (x y : Int) : Bool := decide (x ≤ y)
theorem leD_int {x y : Int} : leD (.int x) (.int y) = leI x y := by
  have := congrFun (congrFun (PySem.W.dataLe_int (fun b : Int => b)) x) y
  exact this
theorem sort_ints (ns : List Int) : (ns.map D.int).mergeSort leD = (ns.mergeSort leI).map D.int := by
  exact (List.map_mergeSort (r := leI) (s := leD) (f := D.int) (l := ns) (fun a _ b _ => (leD_int).symm)).symm
theorem dSorted_lst {ns : List Int} : dSorted (.lst (ns.map D.int)) = .ok (.lst ((ns.mergeSort leI).map D.int)) := by
  show (if srtOk (ns.map D.int) = true then _ else _) = _
  rw [if_pos (show srtOk (ns.map D.int) = true from stuck_iff.mpr (srt_ints ns)), sort_ints]
theorem dSorted_tup {ns : List Int} : dSorted (.tup (ns.map D.int)) = .ok (.lst ((ns.mergeSort leI).map D.int)) := by
  show (if srtOk (ns.map D.int) = true then _ else _) = _
  rw [if_pos (show srtOk (ns.map D.int) = true from stuck_iff.mpr (srt_ints ns)), sort_ints]
/-- 0, 1, .. n - 1 -/
def upto (n : Nat) : List Int := (List.range n).map fun (i : Nat) => (i : Int)
theorem upto_length {n : Nat} : (upto n).length = n := by unfold upto; rw [List.length_map, List.length_range]
theorem upto_at {n i : Nat} (h : i < n) : (upto n)[i]? = some (i : Int) := by unfold upto; rw [List.getElem?_map, List.getElem?_range h]; rfl
theorem mem_upto {n : Nat} {x : Int} : x ∈ upto n ↔ 0 ≤ x ∧ x < n := by
  unfold upto
  rw [List.mem_map]
  constructor
  · rintro ⟨i, hi, rfl⟩
    have := List.mem_range.mp hi
    omega
  · intro h
    exact ⟨x.toNat, List.mem_range.mpr (by omega), by omega⟩
theorem upto_pw {n : Nat} : (upto n).Pairwise (· ≤ ·) := by
  unfold upto
  rw [List.pairwise_map]
  exact List.pairwise_lt_range.imp fun h => by omega
theorem sort_perm {ns : List Int} {n : Nat} (h : ns.Perm (upto n)) : ns.mergeSort leI = upto n := by
  refine PySem.W.Srt.one _ _ ((List.mergeSort_perm _ _).trans h) ?_ upto_pw
  refine (List.pairwise_mergeSort (fun a b c h1 h2 => ?_) (fun a b => ?_) ns).imp fun h => ?_
  · have h1 := of_decide_eq_true h1
    have h2 := of_decide_eq_true h2
    exact decide_eq_true (Int.le_trans h1 h2)
  · unfold leI
    simp
    omega
  · exact of_decide_eq_true h
end Da
namespace Da
open PySem PySem.Spec L2
def keyD : D → Option Key
  | .int i => some (.inl i)
  | .str s => some (.inr s)
  | _ => none
def keyDs : Key → D
  | .inl i => .int i
  | .inr s => .str s
def look : List Key → List D → Key → Option D
  | k' :: ks, d :: ds, k => if k' = k then some d else look ks ds k
  | _, _, _ => none
def putKs (ks : List Key) (k : Key) : List Key := if (ks.any fun j => decide (j = k)) = true then ks else ks ++ [k]
def putVs (ks : List Key) (ds : List D) (k : Key) (d : D) : List D := if (ks.any fun j => decide (j = k)) = true then (ks.zip ds).map (fun p => if p.1 = k then d else p.2) else ds ++ [d]
section
variable {K : PySem.W.Frag} {mg : Str → Option Value} {S H : Hp}
theorem keyD_ok {v : V} {d : D} {k : Key} (r : Rep K mg S v d) (h : keyD d = some k) : v = kV k := by
  cases d with
  | int i => cases h; cases r; rfl
  | str s => cases h; cases r; rfl
  | _ => cases h
theorem Rep.of_dic {v : V} {ks : List Key} {ds : List D} (h : Rep K mg S v (.dic ks ds)) : ∃ a kvs, v = .ref a ∧ Rd S a (.dK kvs) ∧ ks = kvs.map (·.1) ∧ RepL K mg S (kvs.map (·.2)) ds := by
  cases h with
  | dic h hl hi =>
    refine ⟨_, _, rfl, h, rfl, by rw [List.length_map]; exact hl, fun i v d a b => ?_⟩
    rw [List.getElem?_map] at a
    cases e : (_ : List (Key × V))[i]? with
    | none => rw [e] at a; cases a
    | some p => rw [e] at a; cases a; exact hi i p d e b
theorem look_ok : ∀ {kvs : List (Key × V)} {ds : List D} {k : Key}, RepL K mg S (kvs.map (·.2)) ds → (look (kvs.map (·.1)) ds k = none ∧ valV kvs k = none) ∨ ∃ d v, look (kvs.map (·.1)) ds k = some d ∧ valV kvs k = some v ∧ Rep K mg S v d
  | [], ds, k, r => .inl ⟨by cases ds <;> rfl, rfl⟩
  | p :: kvs, [], k, r => by have := r.len; simp at this
  | p :: kvs, d :: ds, k, r => by
    rw [List.map_cons] at r
    by_cases e : p.1 = k
    · refine .inr ⟨d, p.2, ?_, valV_pos e, r.head⟩
      show (if p.1 = k then some d else _) = _
      rw [if_pos e]
    · have ih := look_ok (k := k) r.tail
      have q : look ((p :: kvs).map (·.1)) (d :: ds) k = look (kvs.map (·.1)) ds k := by
        show (if p.1 = k then some d else _) = _
        rw [if_neg e]
      rw [q, valV_neg e]
      exact ih
theorem put_ok {kvs : List (Key × V)} {ds : List D} {k : Key} {v : V} {d : D} (r : RepL K mg S (kvs.map (·.2)) ds) (h : Rep K mg S v d) : (putK kvs k v).map (·.1) = putKs (kvs.map (·.1)) k ∧ RepL K mg S ((putK kvs k v).map (·.2)) (putVs (kvs.map (·.1)) ds k d) := by
  have ha : ((kvs.map (·.1)).any fun j => decide (j = k)) = kvs.any fun kv => decide (kv.1 = k) := by rw [List.any_map]; rfl
  unfold putK putKs putVs
  rw [ha]
  by_cases hk : (kvs.any fun kv => decide (kv.1 = k)) = true
  · rw [if_pos hk, if_pos hk, if_pos hk]
    refine ⟨?_, ?_⟩
    · rw [List.map_map]
      refine List.map_congr_left fun p _ => ?_
      show (if p.1 = k then (p.1, v) else p).1 = p.1
      split <;> rfl
    · have hl := r.len
      rw [List.length_map] at hl
      refine ⟨by simp [hl], fun i w e a b => ?_⟩
      rw [List.getElem?_map, List.getElem?_map] at a
      rw [List.getElem?_map] at b
      cases ek : kvs[i]? with
      | none => rw [ek] at a; cases a
      | some p =>
        rw [ek] at a
        cases ez : ((kvs.map (·.1)).zip ds)[i]? with
        | none => rw [ez] at b; cases b
        | some q =>
          rw [ez] at b
          rw [List.getElem?_zip_eq_some] at ez
          obtain ⟨z1, z2⟩ := ez
          rw [List.getElem?_map, ek] at z1
          have z1 : p.1 = q.1 := by injection z1
          have a : (if p.1 = k then (p.1, v) else p).2 = w := by injection a
          have b : (if q.1 = k then d else q.2) = e := by injection b
          rw [← a, ← b, ← z1]
          split
          · exact h
          · exact r.at_ i p.2 q.2 (by rw [List.getElem?_map, ek]; rfl) z2
  · rw [if_neg hk, if_neg hk, if_neg hk]
    refine ⟨by rw [List.map_append]; rfl, ?_⟩
    rw [List.map_append]
    exact r.snoc h
end
def dGetD : D → D → Res D := fun x y => match x, keyD y with
  | .dic ks ds, some k => (match look ks ds k with
    | some d => .ok d
    | none => .er)
  | _, _ => .er
def dHas (neg : Bool) : D → D → Res D := fun y x => match x, keyD y with
  | .dic ks ds, some k => .ok (.bl ((look ks ds k).isSome != neg))
  | _, _ => .er
theorem dget_k {H : Hp} {a : Addr} {kvs : List (Key × V)} {k : Key} (e : Rd H a (.dK kvs)) : DGet H a (kV k) (valV kvs k) := .inl ⟨kvs, k, e, rfl, rfl⟩
def rDIn (neg : Bool) : R2 := fun x y H Q => ∃ a o, y = .ref a ∧ DGet H a x o ∧ Q (.bl (o.isSome != neg)) H
def rDIx : R2 := fun x y H Q => ∃ a v, x = .ref a ∧ DGet H a y (some v) ∧ Q v H
section
variable {X : Cx} {E : WX} {m : Mds} {a b : Expr} {fa fb : Env → Res D} {pos : Pos} {k : Nat}
theorem op_dNotIn (hu : X.A.units + 1 < cLine) : OpR X (compareOp .NotIn) (rDIn true) := by
  intro pins s σ H x y v u Q I rx ry h
  obtain ⟨d, o, rfl, g, q⟩ := h
  cases ry
  refine d_notIn hu I g rx fun s' I' => ⟨.bl (!o.isSome), H, I', rfl, ?_⟩
  cases o <;> exact q
theorem opd_dhas {K : PySem.W.Frag} {mg : Str → Option Value} {neg : Bool} : OpD K mg .sh (rDIn neg) (dHas neg) := by
  intro E S H x y dx dy Q hs rx ry h
  cases dy with
  | dic ks ds =>
    unfold dHas at h
    split at h
    · rename_i ks' ds' k e1 e2
      cases e1
      obtain ⟨a, kvs, rfl, ha, rfl, rv⟩ := ry.of_dic
      have ex := keyD_ok rx e2
      subst ex
      refine ⟨a, _, rfl, dget_k (same_rd hs ha), ?_⟩
      have h := Post.val h hs (.bl _)
      rcases look_ok (k := k) rv with ⟨e3, e4⟩ | ⟨d, w, e3, e4, _⟩
      · rw [e3] at h; rw [e4]; exact h
      · rw [e3] at h; rw [e4]; exact h
    · exact h.elim
  | _ => exact h.elim
theorem opd_dget {K : PySem.W.Frag} {mg : Str → Option Value} : OpD K mg .sh rDIx dGetD := by
  intro E S H x y dx dy Q hs rx ry h
  cases dx with
  | dic ks ds =>
    unfold dGetD at h
    split at h
    · rename_i ks' ds' k e1 e2
      cases e1
      obtain ⟨a, kvs, rfl, ha, rfl, rv⟩ := rx.of_dic
      have ey := keyD_ok ry e2
      subst ey
      split at h
      · rename_i d ed
        rcases look_ok (k := k) rv with ⟨e3, e4⟩ | ⟨d', w, e3, e4, rw'⟩
        · rw [e3] at ed; cases ed
        · rw [e3] at ed
          cases ed
          exact ⟨a, w, rfl, by rw [← e4]; exact dget_k (same_rd hs ha), Post.val h hs rw'⟩
      · exact h.elim
    · exact h.elim
  | _ => exact h.elim
theorem je_dget (hr : RmU X.A) (ha : JE X E m .sh a fa) (hb : JE X E m .sh b fb) (hs : NoSl b := by intro _ _; rfl) : JE X E m .sh (.Subscript a b pos) (f2 dGetD fa fb) := ⟨PEimp (pe_dget (by unfold RmU at hr; omega) ha.pe hb.pe hs) fun σ H Q h => two opd_dget h⟩
end
end Da
namespace Da
open PySem PySem.Spec L2
def dcGo (g : D → Env → Res Env) (c : Env → Res Bool) (fk fv : Env → Res D) (ρ : Env) : List D → List Key → List D → Res (List Key × List D)
  | [], ks, ds => .ok (ks, ds)
  | x :: xs, ks, ds => match g x ρ with
    | .ok ρ1 => (match c ρ1 with
      | .ok b => if b = true then (match fk ρ1 with
        | .ok y => (match fv ρ1 with
          | .ok z => (match keyD y with
            | some k => dcGo g c fk fv ρ xs (putKs ks k) (putVs ks ds k z)
            | none => .er)
          | _ => .er)
        | _ => .er) else dcGo g c fk fv ρ xs ks ds
      | _ => .er)
    | _ => .er
def fDc (vs : List Nat) (it : Env → Res (List D)) (g : D → Env → Res Env) (c : Env → Res Bool) (fk fv : Env → Res D) : Env → Res D := fun ρ => (it ρ).bind fun xs => if szOk xs.length = true then (match dcGo g c fk fv (wipeD ρ vs) xs [] [] with
  | .ok q => .ok (.dic q.1 q.2)
  | _ => .er) else .er
section
variable {K : PySem.W.Frag} {mg : Str → Option Value} {E : WX} {m : Mds} {it : Env → Res (List D)} {g : D → Env → Res Env} {c : Env → Res Bool} {fk fv : Env → Res D} {ts vs : List Nat}
/-- the dict under way -/
def DcW (K : PySem.W.Frag) (mg : Str → Option Value) (g : D → Env → Res Env) (c : Env → Res Bool) (fk fv : Env → Res D) (ρ : Env) (xs : List D) (q : List Key × List D) (D0 : Addr) (S1 H1 : Hp) (i : Nat) (H : Hp) : Prop :=
  ∃ S2 kvs ds, Step S1 H1 S2 H ∧ S2 D0 = none ∧ H D0 = some (.dK kvs) ∧ RepL K mg S2 (kvs.map (·.2)) ds ∧ dcGo g c fk fv ρ (xs.drop i) (kvs.map (·.1)) ds = .ok q ∧ kvs.length ≤ i
theorem dc_core {σ : L2.St} {S H S1 H1 : Hp} {ρ : Env} {Q : VK} {EE : XK} {xs : List D} {J : It} (hts : ∀ t ∈ ts, t ∈ vs) (hm : EnvM K mg m S H σ ρ) (s1 : Step S H S1 H1) (w : WalkD K mg J S1 xs)
    (k : Post K mg EE S1 H1 .dk (if szOk xs.length = true then (match dcGo g c fk fv (wipeD ρ vs) xs [] [] with
      | .ok q => .ok (.dic q.1 q.2)
      | _ => .er) else .er) Q) :
    tDc (fun _ _ R => R J H1) (tGD K mg m ts g) (tT K mg EF m c) (tE K mg EF m .sh fk) (tE K mg EF m .sh fv) vs σ H Q := by
  intro D0 hD
  split at k
  · rename_i hz
    have hz := szOk_ok hz
    split at k
    · rename_i q eg
      refine ⟨fun i n H => n = xs.length - i ∧ i ≤ xs.length ∧ DcW K mg g c fk fv (wipeD ρ vs) xs q D0 S1 H1 i H, ⟨xs.length, by simp, Nat.zero_le _, S1, [], [], Step.hid s1.sub hD, s1.sub.free hD, upd_same, .nil, eg, Nat.le_refl _⟩, ?_⟩
      rintro i n H2 ⟨rfl, hi, S2, kvs, ds, st2, hs2, hd2, rv, el, hn⟩
      by_cases hlt : i < xs.length
      · obtain ⟨hgo, hyl⟩ := w.go i xs[i] S2 H2 (List.getElem?_eq_getElem hlt) st2.ss st2.sub
        refine .inr ⟨hgo, DcW K mg g c fk fv (wipeD ρ vs) xs q D0 S1 H1 (i + 1), fun H' z => ⟨xs.length - (i + 1), by omega, rfl, hlt, z⟩, fun x H3 y => ?_⟩
        obtain ⟨S3, s3, r3⟩ := hyl x H3 y
        rw [List.drop_eq_getElem_cons hlt] at el
        unfold dcGo at el
        split at el
        · rename_i ρ1 eg1
          have st3 := st2.trans s3
          obtain ⟨F, stF⟩ := (((hm.step s1).step st3).wipe vs).bare
          refine ⟨_, _, S3, F, wipeD ρ vs, xs[i], stF, r3, ?_⟩
          try rw [eg1]
          intro σ4 S4 F4 H4 st4 s4 hfr
          refine ⟨wipe_eq (by rw [hfr.1, L2.wipe_length]) hfr.2 hts, S4, ρ1, st4.envM, ?_⟩
          split at el
          · rename_i b ec
            try rw [ec]
            intro S5 H5 s5
            have a5 := (s3.trans s4).trans s5
            have st5 := st2.trans a5
            cases b with
            | false =>
              rw [if_neg (by decide)] at el
              show DcW K mg g c fk fv (wipeD ρ vs) xs q D0 S1 H1 (i + 1) H5
              exact ⟨S5, kvs, ds, st5, a5.out hs2 hd2, a5.hh _ _ hd2, rv.mono a5.ss, el, by omega⟩
            | true =>
              rw [if_pos rfl] at el
              show tE K mg EF m Md.sh fk σ4 H5 _
              split at el
              · rename_i y' ey
                refine ⟨S5, ρ1, (st4.envM).step s5, ?_⟩
                try rw [ey]
                intro v S6 H6 fp s6 o _ _
                split at el
                · rename_i z' ez
                  refine ⟨S6, ρ1, ((st4.envM).step s5).step s6, ?_⟩
                  try rw [ez]
                  intro v2 S7 H7 fp2 s7 o2 _ _
                  split at el
                  · rename_i kk ek
                    have a7 := (a5.trans s6).trans s7
                    have ev := keyD_ok (o.1.mono s7.ss) ek
                    have pk := put_ok (k := kk) (rv.mono a7.ss) o2.1
                    refine ⟨kvs, kk, ev, a7.hh _ _ hd2, by omega, S7, putK kvs kk v2, _, (st2.trans a7).write (a7.out hs2 hd2) hD, a7.out hs2 hd2, upd_same, pk.2, ?_, by have := length_putK kvs kk v2; omega⟩
                    rw [pk.1]
                    exact el
                  · cases el
                · cases el
              · cases el
          · cases el
        · cases el
      · have e : i = xs.length := by omega
        subst e
        rw [List.drop_length] at el
        cases el
        exact .inl ⟨w.stop S2 H2 st2.ss st2.sub, k _ S2 H2 [D0] st2 ⟨D0, kvs, ds, rfl, rfl, rfl, hs2, hd2, rv⟩ (by simp) (fun a z => by
          have : a = D0 := by simpa using z
          rw [this]; exact hD)⟩
    · exact k.elim
  · exact k.elim
theorem dc_ok {σ : L2.St} {H : Hp} {Q : VK} (hts : ∀ t ∈ ts, t ∈ vs) (h : tE K mg E m .dk (fDc vs it g c fk fv) σ H Q) :
    tDc (tI K mg E m it) (tGD K mg m ts g) (tT K mg EF m c) (tE K mg EF m .sh fk) (tE K mg EF m .sh fv) vs σ H Q := by
  obtain ⟨S, ρ, hm, hp⟩ := h
  exact ⟨S, ρ, hm, (Post.bind hp).imp fun xs S1 H1 s1 k J w => dc_core hts hm s1 w k⟩
end
section
variable {X : Cx} {E : WX} {L : Lp} {m : Mds} {ts : List Nat} {N0 ps0 : List Str} {sc0 : Scope} {kx vx tg iter e : Expr} {ifs : List Expr} {scope : Scope} {own : List (Str × Nat)} {pos p p1 p2 p3 tpos : Pos} {it : Env → Res (List D)} {g : D → Env → Res Env} {c : Env → Res Bool} {fk fv fa fb : Env → Res D} {a b : Expr} {es elts : List Expr} {kk k : Nat} {fs : Env → Res (List D)}
def idxI (xs : List D) (k : Int) : Res D := match intsD xs with
  | some ns => if k ∈ ns then .ok (.int (ns.idxOf k : Nat)) else .er
  | none => .er
def fIdx (fa fb : Env → Res D) : Env → Res D := fun ρ => (fa ρ).bind fun x => match x with
  | .lst xs => (fb ρ).bind fun y => (match y with
    | .int k => idxI xs k
    | _ => .er)
  | _ => .er
theorem idxI_ok {xs : List D} {k : Int} {K : PySem.W.Frag} {mg : Str → Option Value} {E : XK} {S H : Hp} {Q : VK} (h : Post K mg E S H .sh (idxI xs k) Q) : ∃ ns : List Int, xs = ns.map D.int ∧ k ∈ ns ∧ Post K mg E S H .sh (.ok (.int (ns.idxOf k : Nat))) Q := by
  unfold idxI at h
  cases en : intsD xs with
  | none => rw [en] at h; exact h.elim
  | some ns =>
    rw [en] at h
    by_cases hi : k ∈ ns
    · refine ⟨ns, intsD_ok en, hi, ?_⟩
      simpa [hi] using h
    · simp [hi] at h
      exact h.elim
def rIndexL (K : PySem.W.Frag) : V → List V → Hp → VK → Prop := fun x xs H Q => ∃ (a : Addr) (ns : List Int) (k : Int), x = .ref a ∧ xs = [.int k] ∧ SqL K H a (ns.map V.int) ∧ k ∈ ns ∧ Q (.int (ns.idxOf k : Nat)) H
theorem mt_indexL : MtR X "list.index" (rIndexL X.K) := by
  intro pins s σ H x xs v us Q I rx rxs h
  obtain ⟨d, ns, i, rfl, rfl, hq, hi, q⟩ := h
  cases rx
  obtain ⟨u, rfl, ru⟩ := rxs.one
  obtain ⟨t, rfl⟩ := ru
  obtain ⟨its, rv, pl, hz⟩ := I.list hq
  exact PySem.SeqAt.list_index_ints pl.isList rv.ints (by rw [List.length_map] at hz; exact hz) hi ⟨.int _, H, I.tok _, ⟨_, rfl⟩, q⟩
/-- xs.index(k), xs a list -/
theorem je_index (ha : JE X E m .sh a fa) (hb : JE X E m .sh b fb)
    (hpe : ∀ {to te : TE}, PE X a to → PE X b te → PE X (.Call (.Attribute a "index" p2) [b] [] p3) (tBM X.K "list" (rIndexL X.K) to (tCons te tNil)) := by
      intro to te ho he
      exact pe_bm PySem.F.plainAttrs_list PySem.F.slot_list_index PySem.F.type_list_index mt_indexL ho (pa_cons he pa_nil)) :
    JE X E m .sh (.Call (.Attribute a "index" p2) [b] [] p3) (fIdx fa fb) := by
  refine ⟨PEimp (hpe ha.pe hb.pe) fun σ H Q h => ?_⟩
  obtain ⟨S, ρ, hm, hp⟩ := h
  refine ⟨S, ρ, hm, (Post.bind hp).post fun dx v S1 H1 s1 rx k1 => ?_⟩
  cases dx with
  | lst xs =>
    obtain ⟨q, vs, rfl, hq, rv⟩ := rx.of_lst
    refine ⟨.inl ⟨rfl, vs, .inl (.inl (s1.sub _ _ hq))⟩, S1, ρ, hm.step s1, (Post.bind k1).post fun dy w S2 H2 s2 ry k2 => ?_⟩
    cases dy with
    | int i =>
      cases ry
      obtain ⟨ns, rfl, hi, k2⟩ := idxI_ok k2
      rw [rv.ints] at hq
      exact ⟨q, ns, i, rfl, rfl, .inl (.inl (s2.sub _ _ (s2.ss _ _ hq))), hi, Post.val k2 s2.sub (.int _)⟩
    | _ => exact k2.elim
  | _ => exact k1.elim
end
end Da
namespace Da
open PySem PySem.Spec L2
def lookF : List Str → List D → Str → Option D
  | n :: ns, d :: ds, f => if n = f then some d else lookF ns ds f
  | _, _, _ => none
def dFld (c f : Str) : D → Res D
  | .obj c' ns ds => if c' = c then (match lookF ns ds f with
    | some d => .ok d
    | none => .er) else .er
  | _ => .er
/-- the class c has nothing called f: its instances' own f is read and stored -/
def FldAt (K : PySem.W.Frag) (mg : Str → Option Value) (c f : Str) : Prop := ∀ C, mg c = some (.ref C) → Cls K C ∧ NoAttr K C f
section
variable {K : PySem.W.Frag} {mg : Str → Option Value} {S H : Hp}
theorem Rep.of_obj {v : V} {c : Str} {ns : List Str} {ds : List D} (h : Rep K mg S v (.obj c ns ds)) : ∃ a C dx fs, v = .ref a ∧ S a = some (.ins C dx fs) ∧ mg c = some (.ref C) ∧ ns = fs.map (·.1) ∧ RepL K mg S (fs.map (·.2)) ds := by
  cases h with
  | obj h hm hl hi =>
    refine ⟨_, _, _, _, rfl, h, hm, rfl, by rw [List.length_map]; exact hl, fun i v d a b => ?_⟩
    rw [List.getElem?_map] at a
    cases e : (_ : List (Str × V))[i]? with
    | none => rw [e] at a; cases a
    | some p => rw [e] at a; cases a; exact hi i p d e b
theorem lookF_ok : ∀ {fs : List (Str × V)} {ds : List D} {f : Str}, RepL K mg S (fs.map (·.2)) ds → (lookF (fs.map (·.1)) ds f = none ∧ fs.lookup f = none) ∨ ∃ d v, lookF (fs.map (·.1)) ds f = some d ∧ fs.lookup f = some v ∧ Rep K mg S v d
  | [], ds, f, r => .inl ⟨by cases ds <;> rfl, rfl⟩
  | p :: fs, [], f, r => by have := r.len; simp at this
  | p :: fs, d :: ds, f, r => by
    rw [List.map_cons] at r
    by_cases e : p.1 = f
    · refine .inr ⟨d, p.2, ?_, ?_, r.head⟩
      · show (if p.1 = f then some d else _) = _
        rw [if_pos e]
      · obtain ⟨n, v⟩ := p
        rw [List.lookup_cons, show (f == n) = true from by simp [show n = f from e]]
    · have ih := lookF_ok (f := f) r.tail
      have q : lookF ((p :: fs).map (·.1)) (d :: ds) f = lookF (fs.map (·.1)) ds f := by
        show (if p.1 = f then some d else _) = _
        rw [if_neg e]
      have q2 : (p :: fs).lookup f = fs.lookup f := by
        obtain ⟨n, v⟩ := p
        rw [List.lookup_cons, show (f == n) = false from by simp; exact fun z => e z.symm]
      rw [q, q2]
      exact ih
/-- a field stored, its place kept or at the end -/
def putN (f : Str) : List Str → List Str
  | [] => [f]
  | g :: r => if g = f then g :: r else g :: putN f r
def putD (f : Str) (d : D) : List Str → List D → List D
  | g :: ns, x :: ds => if g = f then d :: ds else x :: putD f d ns ds
  | _, ds => ds ++ [d]
theorem putF_ok {f : Str} {v : V} {d : D} (h : Rep K mg S v d) : ∀ {fs : List (Str × V)} {ds : List D}, RepL K mg S (fs.map (·.2)) ds → (putF f v fs).map (·.1) = putN f (fs.map (·.1)) ∧ RepL K mg S ((putF f v fs).map (·.2)) (putD f d (fs.map (·.1)) ds)
  | [], ds, r => by
    have : ds = [] := r.nil_iff.mp rfl
    subst this
    exact ⟨rfl, .cons h .nil⟩
  | p :: fs, [], r => by have := r.len; simp at this
  | (g, x) :: fs, y :: ds, r => by
    rw [List.map_cons] at r
    obtain ⟨i1, i2⟩ := putF_ok h r.tail
    by_cases e : g = f
    · refine ⟨?_, ?_⟩
      · show ((if g = f then (g, v) :: fs else (g, x) :: putF f v fs).map (·.1)) = (if g = f then g :: fs.map (·.1) else g :: putN f (fs.map (·.1)))
        rw [if_pos e, if_pos e]
        rfl
      · show RepL K mg S ((if g = f then (g, v) :: fs else (g, x) :: putF f v fs).map (·.2)) (if g = f then d :: ds else y :: putD f d (fs.map (·.1)) ds)
        rw [if_pos e, if_pos e]
        exact .cons h r.tail
    · refine ⟨?_, ?_⟩
      · show ((if g = f then (g, v) :: fs else (g, x) :: putF f v fs).map (·.1)) = (if g = f then g :: fs.map (·.1) else g :: putN f (fs.map (·.1)))
        rw [if_neg e, if_neg e, List.map_cons, i1]
      · show RepL K mg S ((if g = f then (g, v) :: fs else (g, x) :: putF f v fs).map (·.2)) (if g = f then d :: ds else y :: putD f d (fs.map (·.1)) ds)
        rw [if_neg e, if_neg e, List.map_cons]
        exact .cons r.head i2
end
section
variable {X : Cx} {E : WX} {L : Lp} {m : Mds} {a e : Expr} {fa f : Env → Res D} {pos p1 p2 : Pos} {c x : Str} {fn : Str}
theorem je_fld (c : Str) (F : FldAt X.K X.mg c fn) (ha : JE X E m .sh a fa) (hb : attributeBase a fn X.env (eval a X.env) = eval a X.env := by rfl) : JE X E m .sh (.Attribute a fn pos) (f1 (dFld c fn) fa) := by
  refine ⟨PEimp (pe_fld ha.pe hb) fun σ H Q h => ?_⟩
  obtain ⟨S, ρ, hm, hp⟩ := h
  refine ⟨S, ρ, hm, (Post.bind hp).post fun d v S1 H1 s1 r k => ?_⟩
  cases d with
  | obj c' ns ds =>
    have k2 : Post X.K X.mg (WE E σ) S1 H1 .sh (if c' = c then (match lookF ns ds fn with
      | some d => .ok d
      | none => .er) else .er) Q := k
    by_cases ec : c' = c
    · rw [if_pos ec] at k2
      subst ec
      obtain ⟨q, C, dx, fs, rfl, hq, hC, rfl, rv⟩ := r.of_obj
      obtain ⟨cl, na⟩ := F C hC
      rcases lookF_ok (f := fn) rv with ⟨e1, _⟩ | ⟨d, w, e1, e2, rw'⟩
      · rw [e1] at k2; exact k2.elim
      · rw [e1] at k2
        exact ⟨q, C, dx, fs, w, rfl, s1.sub _ _ hq, cl, na, e2, Post.val k2 s1.sub rw'⟩
    · rw [if_neg ec] at k2
      exact k2.elim
  | _ => exact k.elim
/-- self.f = e -/
def fFld (c fn : Str) (i : Nat) (f : Env → Res D) : FS := fun ρ => match ρ[i]? with
  | some (some (.obj c' ns ds)) => if c' = c ∧ ns.length < 100 then lift (f ρ) ρ fun d => .ok (.nx (ρ.set i (some (.obj c' (putN fn ns) (putD fn d ns ds))))) else .er
  | _ => .er
/-- the object of slot i is written -/
theorem StF.writeO {K : PySem.W.Frag} {mg : Str → Option Value} {S0 H0 S H : Hp} {Fp : Nat → List Addr} {σ : L2.St} {ρ : Env} {i : Nat} {d0 : D} {p dx C : Addr} {c : Str} {gs : List (Str × V)} {ys : List D} (st : StF K mg m S0 H0 S Fp σ ρ H) (hmd : mdAt m i = .ob p) (hρ : ρ[i]? = some (some d0))
    (hp : Fp i = [p, dx]) (hσ : σ[i]? = some (some (.ref p))) (sp : S p = none) (sd : S dx = none) (hC : mg c = some (.ref C)) (hdx : H dx = some (.own p)) (r : RepL K mg S (gs.map (·.2)) ys) : StF K mg m S0 H0 S Fp σ (ρ.set i (some (.obj c (gs.map (·.1)) ys))) (upd H p (.ins C dx gs)) := by
  obtain ⟨s, e, nw⟩ := st
  have hil : i < ρ.length := (List.getElem?_eq_some_iff.mp hρ).1
  have h0 : H0 p = none := nw i _ hρ p (by rw [hp]; exact List.mem_cons_self)
  have hne : dx ≠ p := fun z => by
    have := e.nd i _ hρ
    rw [hp, z] at this
    simp at this
  have key : ∀ j d', (ρ.set i (some (.obj c (gs.map (·.1)) ys)))[j]? = some (some d') → (j = i ∧ d' = .obj c (gs.map (·.1)) ys) ∨ (j ≠ i ∧ ρ[j]? = some (some d')) := fun j d' ej => by
    by_cases hj : j = i
    · subst hj
      rw [List.getElem?_set_self hil] at ej
      injection ej with z; injection z with z
      exact .inl ⟨rfl, z.symm⟩
    · rw [List.getElem?_set_ne (Ne.symm hj)] at ej
      exact .inr ⟨hj, ej⟩
  have same : ∀ {B : Hp}, Same B H → B p = none → Same B (upd H p (.ins C dx gs)) := fun hB hb a o ea => by
    rw [upd_ne (ne_of_none ea hb)]
    exact hB a o ea
  refine ⟨⟨same s.hh h0, s.ss, same s.sub sp, s.new⟩, ⟨by rw [List.length_set]; exact e.len, fun j d' ej => ?_, fun j d' ej => ?_, fun j k d1 d2 hjk e1 e2 => ?_⟩, fun j d' ej => ?_⟩
  · rcases key j d' ej with ⟨rfl, rfl⟩ | ⟨hj, ej'⟩
    · refine ⟨_, hσ, ?_⟩
      rw [hmd]
      exact ⟨dx, C, c, gs, ys, rfl, rfl, hp, sp, sd, hC, upd_same, by rw [upd_ne hne]; exact hdx, r⟩
    · obtain ⟨w, e1, o1⟩ := e.at_ j d' ej'
      exact ⟨w, e1, o1.other sp fun z => e.apart i j _ d' (Ne.symm hj) hρ ej' p (by rw [hp]; exact List.mem_cons_self) z⟩
  · rcases key j d' ej with ⟨rfl, rfl⟩ | ⟨hj, ej'⟩
    · exact e.nd _ _ hρ
    · exact e.nd j d' ej'
  · have live : ∀ j d', (ρ.set i (some (.obj c (gs.map (·.1)) ys)))[j]? = some (some d') → ∃ d'', ρ[j]? = some (some d'') := fun j d' ej => by
      rcases key j d' ej with ⟨rfl, _⟩ | ⟨_, ej'⟩
      · exact ⟨_, hρ⟩
      · exact ⟨_, ej'⟩
    obtain ⟨d1', h1⟩ := live j d1 e1
    obtain ⟨d2', h2⟩ := live k d2 e2
    exact e.apart j k d1' d2' hjk h1 h2
  · rcases key j d' ej with ⟨rfl, rfl⟩ | ⟨hj, ej'⟩
    · exact nw _ _ hρ
    · exact nw j d' ej'
theorem js_fld (c : Str) (i : Nat) (F : FldAt X.K X.mg c fn) (he : JE X E m .sh e f) {q : Addr} (hmd : mdAt m i = .ob q := by rfl) (hN : X.N[i]? = some x := by rfl) (hv : Vis X.env.scope x := by first | exact Or.inl rfl | exact Or.inr (Or.inl rfl) | exact Or.inr (Or.inr rfl))
    (hd : (x == ("__debug__" : Str)) = false := by decide) (hcd : (x == ("__classdict__" : Str)) = false := by decide) (hs : swapsWith e (some (.Attribute (.Name x p1) fn p2)) pos.line X.env = pure false := by rfl) :
    JS X E L m m (.Assign [.Attribute (.Name x p1) fn p2] e pos) (fFld c fn i f) := by
  refine ⟨PSimp (ps_fld (pe_var hN hv hd hcd) he.pe hs) fun D σ H h => ?_⟩
  obtain ⟨S0, H0, ρ, ⟨S, Fp, st⟩, p⟩ := h
  unfold fFld at p
  split at p
  · rename_i c' ns ds exs
    by_cases hc : c' = c ∧ ns.length < 100
    · rw [if_pos hc] at p
      obtain ⟨rfl, hl⟩ := hc
      refine ⟨S, ρ, st.envM, (lift_post st p).post fun d v S1 H1 s1 r k => ?_⟩
      have st1 := st.step s1
      obtain ⟨w, e1, o⟩ := st1.2.1.at_ i _ exs
      rw [hmd] at o
      obtain ⟨dx, C, c2, gs, ys, rfl, ed, e3, e4, e5, e6, e7, e8, e9⟩ := o
      cases ed
      obtain ⟨cl, na⟩ := F C e6
      obtain ⟨k1, k2⟩ := putF_ok (f := fn) r e9
      refine ⟨_, e1, q, C, dx, gs, rfl, e7, cl, na, by rw [List.length_map] at hl; omega, ?_⟩
      have w := st1.writeO (gs := putF fn v gs) (ys := putD fn d (gs.map (·.1)) ds) hmd exs e3 e1 e4 e5 e6 e8 k2
      rw [k1] at w
      exact k σ _ w.stM
    · rw [if_neg hc] at p
      exact p.elim
  · exact p.elim
end
end Da
namespace Da
open PySem PySem.Spec L2
/-- what an __init__ promises: the new object at p, told by f of the arguments -/
def spI (K : PySem.W.Frag) (mg : Str → Option Value) (np : Nat) (c : Str) (f : List D → Res D) : Sp := fun vs H Q E => ∃ (S : Hp) (p dx C : Addr) (us : List V) (ds : List D), vs = .ref p :: us ∧ Same S H ∧ S p = none ∧ S dx = none ∧ dx ≠ p ∧ mg c = some (.ref C) ∧ H p = some (.ins C dx []) ∧ H dx = some (.own p) ∧ RepL K mg S us ds ∧ ds.length = np ∧
  (match f ds with
  | .ok d => ∀ S' H' fp, Step S (fun a => if a = p ∨ a = dx then none else H a) S' H' → OwnAt K mg S' H' fp (.ref p) d (.ob p) → fp.Nodup → (∀ a, a ∈ fp → a = p ∨ a = dx ∨ H a = none) → Q .non H'
  | .ex c fs => ∀ S' H' cls dd, Step S (fun a => if a = p ∨ a = dx then none else H a) S' H' → ExcAt K mg S' H' cls dd c fs → E cls dd H'
  | .er => False)
/-- the run of an __init__ -/
def runI (n : Nat) (c : Str) (F : FS) (ds : List D) : Res D := match F (some (.obj c [] []) :: (ds.map some ++ List.replicate (n - 1 - ds.length) none)) with
  | .ok (.nx ρ) => (match ρ[0]? with
    | some (some d) => .ok d
    | _ => .er)
  | .ok (.xc c fs _) => .ex c fs
  | _ => .er
section
variable {P : Program} {w : World} {K : PySem.W.Frag} {mg : Str → Option Value} {base : Heap}
theorem fn_okI {x qual c : Str} {st : Stmt} {f : Addr} {fd : FuncData} {N ps : List Str} {k np : Nat} {F : FS} (Fn : Fun K x qual st f fd) (Sc : FnScope N ps (defScope st)) (hnp : ps.length ≤ N.length) (hps : ps.length = np + 1)
    (h : ∀ (p : Addr) (cdv : Value) (A : Around) (outer : List PySem.Env) (s : Shared) (H : Hp) (E : XK), Room k (A.deeper (PyProof.Rows.envOfC qual (defScope st) s.heap.objs.size f cdv)) →
      JSs (cxOf (L2.CX P w) P w K mg base N qual (defScope st) f cdv A outer s H E) (fun cls d _ H => E cls d H) ⟨[], [], .dt⟩ (.ob p :: msh (N.length - 1)) (.ob p :: msh (N.length - 1)) (defBody st) F) :
    FnOk P w K mg base (L2.CX P w) (k + 1) f fd ps (spI K mg np c (runI N.length c F)) := by
  refine Fn.okX Sc (fun vs H Q E hsp => ?_) (fun cdv A outer s H vs Q E hr hsp => ?_)
  · obtain ⟨S, p, dx, C, us, ds, rfl, _, _, _, _, _, _, _, rv, hl, _⟩ := hsp
    rw [List.length_cons, rv.len, hl, hps]
  · obtain ⟨S, p, dx, C, us, ds, rfl, hs, sp, sd, hne, hC, hp, hd, rv, hl, hq⟩ := hsp
    have hN : N.length = np + 1 + (N.length - 1 - np) := by omega
    let H0 : Hp := fun a => if a = p ∨ a = dx then none else H a
    have h0 : ∀ a, (a = p ∨ a = dx) → H0 a = none := fun a z => if_pos z
    have h0H : Same H0 H := fun a o e => by
      have e : (if a = p ∨ a = dx then none else H a) = some o := e
      split at e
      · cases e
      · exact e
    have ml : ∀ j, j ≠ 0 → mdAt (.ob p :: msh (N.length - 1)) j = .sh := fun j hj => by
      obtain ⟨i, rfl⟩ : ∃ i, j = i + 1 := ⟨j - 1, by omega⟩
      show mdAt (msh _) i = .sh
      exact mdAt_msh
    let Fp : Nat → List Addr := fun i => if i = 0 then [p, dx] else []
    refine ⟨_, (h p cdv A outer s H E hr).ps, S, H0, some (.obj c [] []) :: (ds.map some ++ List.replicate (N.length - 1 - ds.length) none), ⟨S, Fp, ⟨h0H, Same.refl _, hs, fun _ z => .inl z⟩, ⟨?_, fun i d e => ?_, fun i d e => ?_, fun i j d e hij e1 e2 a ha => ?_⟩, fun i d e a ha => ?_⟩, ?_⟩
    · unfold L2.start
      rw [List.length_append, List.length_cons, List.length_append, List.length_map, List.length_map, List.length_replicate, List.length_replicate, List.length_cons, rv.len]
      omega
    · cases i with
      | zero =>
        rw [List.getElem?_cons_zero] at e
        have e : D.obj c [] [] = d := by injection e with e; injection e
        subst e
        refine ⟨.ref p, ?_, ?_⟩
        · unfold L2.start
          rfl
        · exact ⟨dx, C, c, [], [], rfl, rfl, rfl, sp, sd, hC, hp, hd, .nil⟩
      | succ i =>
        rw [List.getElem?_cons_succ] at e
        by_cases hi : i < ds.length
        · rw [List.getElem?_append_left (by rw [List.length_map]; exact hi), List.getElem?_map, List.getElem?_eq_getElem hi] at e
          have e' : ds[i] = d := by injection e with e; injection e
          obtain ⟨v, ev, r⟩ := rv.get (List.getElem?_eq_getElem hi)
          refine ⟨v, ?_, ?_⟩
          · unfold L2.start
            rw [List.map_cons, List.cons_append, List.getElem?_cons_succ, List.getElem?_append_left (by rw [List.length_map, rv.len]; exact hi), List.getElem?_map, ev]
            rfl
          · rw [ml _ (by omega), ← e']
            exact ⟨r, rfl⟩
        · rw [List.getElem?_append_right (by rw [List.length_map]; omega), List.getElem?_replicate] at e
          split at e <;> cases e
    · cases i with
      | zero =>
        show [p, dx].Nodup
        simp
        exact fun z => hne z.symm
      | succ i => exact List.nodup_nil
    · cases i with
      | zero =>
        cases j with
        | zero => exact absurd rfl hij
        | succ j => exact fun z => nomatch z
      | succ i => cases ha
    · cases i with
      | zero =>
        have : a = p ∨ a = dx := by simpa [Fp] using ha
        exact h0 a this
      | succ i => cases ha
    · unfold runI at hq
      cases ef : F (some (.obj c [] []) :: (ds.map some ++ List.replicate (N.length - 1 - ds.length) none)) with
      | ok o =>
        rw [ef] at hq
        cases o with
        | nx ρ =>
          intro σ' H' ⟨S', F', st'⟩
          simp only at hq
          cases e0 : ρ[0]? with
          | none => rw [e0] at hq; exact hq.elim
          | some d0 =>
            cases d0 with
            | none => rw [e0] at hq; exact hq.elim
            | some d =>
              rw [e0] at hq
              obtain ⟨v, _, o⟩ := st'.2.1.at_ 0 d e0
              have o : OwnAt K mg S' H' (F' 0) v d (.ob p) := o
              have ev : v = .ref p := by
                obtain ⟨_, _, _, _, _, e, _⟩ := o
                exact e
              subst ev
              refine hq S' H' (F' 0) st'.1 o (st'.2.1.nd 0 d e0) fun a ha => ?_
              have := st'.2.2 0 d e0 a ha
              by_cases z : a = p ∨ a = dx
              · rcases z with z | z
                · exact .inl z
                · exact .inr (.inl z)
              · have this : (if a = p ∨ a = dx then none else H a) = none := this
                rw [if_neg z] at this
                exact .inr (.inr this)
        | rt d => exact hq.elim
        | bk ρ => exact hq.elim
        | ct ρ => exact hq.elim
        | xc c fs ρ => exact fun σ' S' F' H' cls dd st' x' => hq S' H' cls dd st'.1 x'
      | ex c fs => rw [ef] at hq; exact hq.elim
      | er => rw [ef] at hq; exact hq.elim
end
section
variable {X : Cx} {E : WX} {m : Mds} {e o : Expr} {es : List Expr} {fs : Env → Res (List D)} {p pos apos : Pos} {c mn : Str} {k np : Nat} {f C : Addr} {fd : FuncData} {ps : List Str} {g : List D → Res D} {fa : Env → Res D}
/-- the class of this name makes its objects by g -/
def KeepsI (P : Program) (w : World) (K : PySem.W.Frag) (mg : Str → Option Value) (base : Heap) (c : Str) (k : Nat) (ps : List Str) (np : Nat) (g : List D → Res D) : Prop :=
  ∃ C f fd, mg c = some (.ref C) ∧ Mk K C f ∧ Binds K fd ps [] ∧ FnOk P w K mg base (L2.CX P w) k f fd ps (spI K mg np c g)
theorem make_run {E : XK} {sp : Sp} {pins : List (Addr × Obj)} {σ : L2.St} {H : Hp} {s : Shared} {Q : VK} {us : List Value} {vs : List V} (M : Mk X.K C f) (F : FnOk X.prog X.w X.K X.mg X.base (L2.CX X.prog X.w) k f fd ps sp) (hr : Room (k + 1) X.A) (hb : Binds X.K fd ps []) (hx : PassesAt (L2.CX X.prog X.w) X σ E) (I : Inv X pins σ H s) (rv : Vals vs us)
    (h : ∀ x dx, H x = none → H dx = none → dx ≠ x → sp (.ref x :: vs) (upd (upd H dx (.own x)) x (.ins C dx [])) (fun v H2 => v = .non ∧ Q (.ref x) H2) E) : wpAny (model X.prog X.w) X.A (call (.ref C) us) (EP X pins σ Q) X.xe s := by
  have n1 := I.hok.fresh (Nat.le_succ s.heap.objs.size)
  have n2 := I.hok.fresh (Nat.le_refl s.heap.objs.size)
  have hq := h (s.heap.objs.size + 1) s.heap.objs.size n1 n2 (Nat.ne_of_lt (Nat.lt_succ_self _))
  have J := Inv.made (C := C) I
  have rr : Vals (V.ref (s.heap.objs.size + 1) :: vs) (Value.ref (s.heap.objs.size + 1) :: us) := .cons rfl rv
  have hl : (Value.ref (s.heap.objs.size + 1) :: us).length = ps.length := rr.length.symm.trans (F.len _ _ _ _ hq)
  have bnd := hb _ (Value.ref (s.heap.objs.size + 1) :: us) J.kIn (by rw [List.append_nil]; exact hl)
  rw [List.append_nil] at bnd
  refine wpAny_call (make_map (f := f) I.kIn M.makes M.init (beq_iff_eq.mp M.fn) (codeAny_mono (F.run _ X.stack _ _ ⟨Value.ref (s.heap.objs.size + 1) :: us, []⟩ _ _ _ E (hr.make C us []) (J.env0.make C us []) bnd rr hq) fun fin s' hf => ?_))
  cases fin with
  | error u => exact hx pins _ _ u s' J hf
  | ok fl =>
    cases fl with
    | ret u =>
      obtain ⟨v, H', I3, ru, ev, q3⟩ := J.after hf
      subst ev
      exact ⟨ru, V.ref (s.heap.objs.size + 1), H', I3, rfl, q3⟩
    | _ => exact hf.elim
theorem je_make (G : KeepsI X.prog X.w X.K X.mg X.base c k ps np g) (hr : Room (k + 1) X.A) (tk : Takes X E) (ha : JA X E m (e :: es) fs) (hg : Gl X c := by rfl) (hdb : (c == ("__debug__" : Str)) = false := by decide)
    (he : starEach (e :: es) X.env = (false, eval e X.env) :: starEach es X.env := by rfl) (hpl : (backTo pos (starEach es X.env)).any (·.1) = false := by rfl) : JE X E m .sh (.Call (.Name c p) (e :: es) [] pos) (fOn (chk np g) fs) := by
  obtain ⟨C, f, fd, hC, M, hb, F⟩ := G
  refine ⟨⟨fun pins s σ H Q I h => ?_⟩⟩
  obtain ⟨S, ρ, hm, hp⟩ := h
  refine wpAny_Call_Name_kw (ld_glob I hg hC ?_ hdb)
  refine PySem.W.callWith_K (h₀ := X.base) I.ok.mod.kin M.kp (thn (ha.pa.run pos pins s σ H _ I ⟨S, ρ, hm, (Post.bind hp).imp fun ds S1 H1 s1 k1 => ?_⟩) fun us s1 ⟨vs, H1, I1, r, q⟩ => ⟨I1.kIn, make_run (E := WE E σ) (sp := spI X.K X.mg np c g) M F hr hb (passAt tk σ) I1 r q⟩) he hpl
  intro vs rs x dx hx hdx hne
  obtain ⟨hl, k1⟩ := k1.chkd
  have sx : S1 x = none := s1.sub.free hx
  have sd : S1 dx = none := s1.sub.free hdx
  have same : ∀ {B : Hp}, Same B H1 → Same B (upd (upd H1 dx (.own x)) x (.ins C dx [])) := fun hB a o ea => by
    have ea' := hB a o ea
    rw [upd_ne (ne_of_none ea' hx), upd_ne (ne_of_none ea' hdx)]
    exact ea'
  refine ⟨S1, x, dx, C, vs, ds, rfl, same s1.sub, sx, sd, hne, hC, upd_same, by rw [upd_ne hne, upd_same], rs, hl, ?_⟩
  have back : ∀ {S' H' : Hp}, Step S1 (fun a => if a = x ∨ a = dx then none else upd (upd H1 dx (.own x)) x (.ins C dx []) a) S' H' → Step S1 H1 S' H' := fun {S' H'} st => by
    refine ⟨fun a o ea => st.hh a o ?_, st.ss, st.sub, fun a ha => ?_⟩
    · show (if a = x ∨ a = dx then none else upd (upd H1 dx (.own x)) x (.ins C dx []) a) = some o
      have na : ¬ (a = x ∨ a = dx) := fun z => by
        rcases z with z | z
        · rw [z, hx] at ea; cases ea
        · rw [z, hdx] at ea; cases ea
      rw [if_neg na]
      exact same (Same.refl H1) a o ea
    · rcases st.new a ha with z | z
      · exact .inl z
      · have z : (if a = x ∨ a = dx then none else upd (upd H1 dx (.own x)) x (.ins C dx []) a) = none := z
        by_cases na : a = x ∨ a = dx
        · rcases na with rfl | rfl
          · exact .inr hx
          · exact .inr hdx
        · rw [if_neg na] at z
          refine .inr ?_
          rw [upd_ne (fun y => na (.inl y)), upd_ne (fun y => na (.inr y))] at z
          exact z
  cases eg : g ds with
  | ok d =>
    rw [eg] at k1
    intro S' H' fp st o hn hf
    refine ⟨rfl, ?_⟩
    -- the object is shared from here on
    have st' := back st
    let A : Addr → Prop := fun a => a ∈ fp
    have ho : ∀ a, A a → S' a = none := fun a ha => (o.out ha).1
    refine k1 (.ref x) (take S' H' A) H' [] ⟨st'.hh, st'.ss.trans (take_same st'.sub ho), take_sub st'.sub, fun a y => ?_⟩ ⟨o.shared st'.sub ho fun a ha => ha, rfl⟩ List.nodup_nil (fun a z => nomatch z)
    by_cases z : A a
    · rcases hf a z with q | q | q
      · rw [q]; exact .inr hx
      · rw [q]; exact .inr hdx
      · refine .inr ?_
        cases e1 : H1 a with
        | none => rfl
        | some u => rw [same (Same.refl H1) a u e1] at q; cases q
    · rw [take_out z] at y
      exact st'.new a y
  | ex c' fs' =>
    rw [eg] at k1
    exact fun S' H' cls dd st x' => k1 S' H' cls dd (back st) x'
  | er => rw [eg] at k1; exact k1.elim
end
end Da
namespace Da
open PySem PySem.Spec L2
/-- the j-th statement of a class -/
def inCls (s : Stmt) (j : Nat) : Stmt := match s with
  | .ClassDef _ _ _ body _ _ _ _ _ _ _ => body.getD j (.Pass ⟨0, 0, 0, 0⟩)
  | _ => .Pass ⟨0, 0, 0, 0⟩
def InitAt (K : PySem.W.Frag) (mg : Str → Option Value) (c qual : Str) (st : Stmt) (ps : List Str) : Prop := ∃ C f fd, mg c = some (.ref C) ∧ Mk K C f ∧ Fun K "__init__" qual st f fd ∧ Binds K fd ps []
section
variable {P : Program} {w : World} {K : PySem.W.Frag} {mg : Str → Option Value} {base h : Heap} {c mn qual : Str} {st : Stmt} {ps N : List Str} {k np : Nat} {md : Md} {F : FS} {f C : Addr} {oc : Value} {od an : Option Addr} {osl : Array (Option Value)} {kV doc pm cdv ct : Value}
theorem keepsI_of (dA : InitAt K mg c qual st ps) (Sc : FnScope N ps (defScope st)) (hnp : ps.length ≤ N.length) (hps : ps.length = np + 1)
    (h : ∀ (f p : Addr) (cdv : Value) (A : Around) (outer : List PySem.Env) (s : Shared) (H : Hp) (E : XK), Room k (A.deeper (PyProof.Rows.envOfC qual (defScope st) s.heap.objs.size f cdv)) →
      JSs (cxOf (L2.CX P w) P w K mg base N qual (defScope st) f cdv A outer s H E) (fun cls d _ H => E cls d H) ⟨[], [], .dt⟩ (.ob p :: msh (N.length - 1)) (.ob p :: msh (N.length - 1)) (defBody st) F) : KeepsI P w K mg base c (k + 1) ps np (runI N.length c F) := by
  obtain ⟨C, f, fd, hC, M, Fn, bd⟩ := dA
  exact ⟨C, f, fd, hC, M, bd, fn_okI Fn Sc hnp hps (h f)⟩
theorem cls_mk (pg : PySem.W.plainGet K C Str.empty = true) (hd : PySem.W.hasDictIn K C = true) (po : PySem.W.plainOver K C = true) (sa : PySem.W.findIn K (.ref C) "__setattr__" = some (some (.builtin "object.__setattr__"))) : Cls K C := ⟨pg, hd, po, sa⟩
theorem fldAt_mk {fn : Str} (X : K.In h) (G : h.Ns mainGlobals mg) (a : PySem.W.nsIn K mainGlobals c = some (some (.ref C))) (cl : Cls K C) (n : PySem.W.findIn K (.ref C) fn = some none) : FldAt K mg c fn := fun C' hC' => by
  rw [PySem.W.mg_of X G a] at hC'
  injection hC' with z
  injection z with z
  rw [← z]
  exact ⟨cl, n⟩
theorem initAt_mk (X : K.In h) (G : h.Ns mainGlobals mg) (a : PySem.W.nsIn K mainGlobals c = some (some (.ref C))) (m1 : PySem.W.makesIn K C = true) (m2 : PySem.W.findIn K (.ref C) "__init__" = some (some (.ref f))) (m3 : PySem.W.isFn K (.ref f) = true) (m4 : PySem.W.keepIn K (.ref C) = true)
    (l : K.lookup f = some ⟨oc, od, .func (PySem.W.fnOf "__init__" qual (defArgs st) (defBody st) (defScope st) .none kV doc pm an cdv ct), osl⟩) (cd : PySem.W.codeIn K cdv qual = true) (kf : PySem.W.keepIn K (.ref f) = true)
    (hb : ∀ (kV doc pm : Value) (an : Option Addr) (cdv ct : Value) (us : List Value), us.length = ps.length → bindArgs (PySem.W.fnOf "__init__" qual (defArgs st) (defBody st) (defScope st) .none kV doc pm an cdv ct) ⟨us, []⟩ = pure (ps.zip us)) : InitAt K mg c qual st ps := by
  have Fn := fun_mk (st := st) l cd kf
  exact ⟨C, f, _, PySem.W.mg_of X G a, ⟨m1, m2, m3, m4⟩, Fn, Fn.binds hb⟩
end
end Da
namespace Da
open PySem PySem.Spec L2
end Da
namespace Da
open PySem PySem.Spec L2
/-- the fraction t/b in its lowest terms, as a pair -/
def frac (t b : Int) : D := .tup [.int (t / Int.gcd t b), .int (b / Int.gcd t b)]
/-- the number q as the program's pair -/
def frQ (q : Rat) : D := .tup [.int q.num, .int (q.den : Int)]
theorem frac_eq {t b : Int} (hb : 0 < b) : frac t b = frQ ((t : Rat) / (b : Rat)) := by
  have hn : b ≠ 0 := by omega
  rw [frQ, ← Rat.divInt_eq_div, Rat.num_divInt, Rat.den_divInt, if_neg hn, Int.sign_eq_one_of_pos hb, Int.one_mul, Int.gcd_comm b t, frac]
  rw [Int.natCast_ediv, Int.natAbs_of_nonneg (Int.le_of_lt hb)]
/-- small enough to add two of them -/
def Sm (q : Rat) : Prop := q.num.natAbs < 2 ^ 4400 ∧ q.den < 2 ^ 4400
end Da
namespace Da
open PySem PySem.Spec L2
/-- q is some n over L, n at most B -/
def In (L B : Nat) (q : Rat) : Prop := ∃ n : Int, q = (n : Rat) / ((L : Int) : Rat) ∧ n.natAbs ≤ B
theorem In.sm {L B : Nat} {q : Rat} (h : In L B q) (h0 : 0 < L) (hL : L < 2 ^ 4400) (hB : B < 2 ^ 4400) : Sm q := by
  obtain ⟨n, e, hn⟩ := h
  have hp : (0 : Int) < (L : Int) := by omega
  have f : frac n L = frQ q := by rw [frac_eq hp, e]
  injection f with f
  injection f with f1 f2
  injection f1 with f1
  injection f2 with f2 _
  injection f2 with f2
  constructor
  · rw [← f1]
    refine Nat.lt_of_le_of_lt (Nat.le_trans ?_ hn) hB
    exact Int.natAbs_ediv_le_natAbs _ _
  · have : ((L : Int) / (Int.gcd n L : Int)) ≤ (L : Int) := Int.ediv_le_self _ (by omega)
    omega
theorem In.add {L A B : Nat} {p q : Rat} (h : In L A p) (h' : In L B q) : In L (A + B) (p + q) := by
  obtain ⟨n, rfl, hn⟩ := h
  obtain ⟨k, rfl, hk⟩ := h'
  refine ⟨n + k, ?_, Nat.le_trans (Int.natAbs_add_le n k) (Nat.add_le_add hn hk)⟩
  rw [Rat.intCast_add]
  grind
theorem In.zero {L : Nat} : In L 0 0 := ⟨0, by grind, by simp⟩
def sumQ (qs : List Rat) : Rat := qs.foldl (· + ·) 0
theorem sumQ_snoc (qs : List Rat) (q : Rat) : sumQ (qs ++ [q]) = sumQ qs + q := by unfold sumQ; rw [List.foldl_append]; rfl
theorem In.sum {L B : Nat} {qs : List Rat} (h : ∀ q ∈ qs, In L B q) (n : Nat) : In L (n * B) (sumQ (qs.take n)) := by
  induction n with
  | zero => simp [sumQ]; exact In.zero
  | succ n ih =>
    cases e : qs[n]? with
    | none =>
      have : qs.take (n + 1) = qs.take n := by
        rw [List.take_of_length_le, List.take_of_length_le] <;> have := List.getElem?_eq_none_iff.mp e <;> omega
      rw [this]
      obtain ⟨k, ek, hk⟩ := ih
      exact ⟨k, ek, Nat.le_trans hk (Nat.mul_le_mul_right B (Nat.le_succ n))⟩
    | some q =>
      rw [List.take_succ, e, Option.toList_some, sumQ_snoc, Nat.succ_mul]
      exact ih.add (h q (List.mem_of_getElem? e))
end Da
namespace Da
open PySem PySem.Spec L2
theorem In.mono {L A B : Nat} {q : Rat} (h : In L A q) (hab : A ≤ B) : In L B q := by
  obtain ⟨n, e, hn⟩ := h
  exact ⟨n, e, Nat.le_trans hn hab⟩
theorem In.of {t b : Int} {L : Nat} (k : Nat) (hb : 0 < b) (h0 : 0 < L) (hk : b * k = L) : In L (t.natAbs * k) ((t : Rat) / (b : Rat)) := by
  refine ⟨t * k, ?_, by rw [Int.natAbs_mul, Int.natAbs_natCast]; exact Nat.le_refl _⟩
  have hkn : (k : Int) ≠ 0 := by
    intro h
    rw [h, Int.mul_zero] at hk
    omega
  have h1 : ((k : Int) : Rat) ≠ 0 := by exact_mod_cast hkn
  have h2 : (b : Rat) ≠ 0 := by exact_mod_cast (show b ≠ 0 by omega)
  rw [← hk, Rat.intCast_mul, Rat.intCast_mul]
  generalize ((k : Int) : Rat) = x at *
  generalize (b : Rat) = y at *
  generalize (t : Rat) = z at *
  grind
end Da
namespace Da
open PySem PySem.Spec L2
end Da
namespace Da
open PySem PySem.Spec L2
section
variable {X : Cx} {E : WX} {L : Lp} {m : Mds} {e j : Expr} {f fj : Env → Res D} {x : Str} {pos p1 p2 : Pos} {k : Nat}
/-- what slot i owns is written -/
theorem StF.writeG {K : PySem.W.Frag} {mg : Str → Option Value} {S0 H0 S H : Hp} {Fp : Nat → List Addr} {σ : L2.St} {ρ : Env} {i : Nat} {d0 d1 : D} {v : V} {p : Addr} {o : HO} (st : StF K mg m S0 H0 S Fp σ ρ H) (hρ : ρ[i]? = some (some d0)) (hp : Fp i = [p]) (hσ : σ[i]? = some (some v)) (sp : S p = none)
    (ow : OwnAt K mg S (upd H p o) [p] v d1 (mdAt m i)) : StF K mg m S0 H0 S Fp σ (ρ.set i (some d1)) (upd H p o) := by
  obtain ⟨s, en, nw⟩ := st
  have hil : i < ρ.length := (List.getElem?_eq_some_iff.mp hρ).1
  have h0 : H0 p = none := nw i _ hρ p (by rw [hp]; exact List.mem_cons_self)
  have key : ∀ j d', (ρ.set i (some d1))[j]? = some (some d') → (j = i ∧ d' = d1) ∨ (j ≠ i ∧ ρ[j]? = some (some d')) := fun j d' ej => by
    by_cases hj : j = i
    · subst hj
      rw [List.getElem?_set_self hil] at ej
      injection ej with z; injection z with z
      exact .inl ⟨rfl, z.symm⟩
    · rw [List.getElem?_set_ne (Ne.symm hj)] at ej
      exact .inr ⟨hj, ej⟩
  have same : ∀ {B : Hp}, Same B H → B p = none → Same B (upd H p o) := fun hB hb a u ea => by
    rw [upd_ne (ne_of_none ea hb)]
    exact hB a u ea
  have live : ∀ j d', (ρ.set i (some d1))[j]? = some (some d') → ∃ d'', ρ[j]? = some (some d'') := fun j d' ej => by
    rcases key j d' ej with ⟨rfl, _⟩ | ⟨_, ej'⟩
    · exact ⟨_, hρ⟩
    · exact ⟨_, ej'⟩
  refine ⟨⟨same s.hh h0, s.ss, same s.sub sp, s.new⟩, ⟨by rw [List.length_set]; exact en.len, fun j d' ej => ?_, fun j d' ej => ?_, fun j k a b hjk e1 e2 => ?_⟩, fun j d' ej => ?_⟩
  · rcases key j d' ej with ⟨rfl, rfl⟩ | ⟨hj, ej'⟩
    · exact ⟨v, hσ, by rw [hp]; exact ow⟩
    · obtain ⟨w, e1, o1⟩ := en.at_ j d' ej'
      exact ⟨w, e1, o1.other sp fun z => en.apart i j _ d' (Ne.symm hj) hρ ej' p (by rw [hp]; exact List.mem_cons_self) z⟩
  · obtain ⟨d'', h⟩ := live j d' ej
    exact en.nd j d'' h
  · obtain ⟨a', h1⟩ := live j a e1
    obtain ⟨b', h2⟩ := live k b e2
    exact en.apart j k a' b' hjk h1 h2
  · obtain ⟨d'', h⟩ := live j d' ej
    exact nw j d'' h
theorem je_dnew : JE X E m .dk (.Dict [] [] pos) (fC (.dic [] [])) := ⟨PEimp pe_dnewK fun σ H Q h => by
  obtain ⟨S, ρ, hm, hp⟩ := h
  intro p hn
  exact hp _ S _ [p] (Step.hid hm.1 hn) ⟨p, [], [], rfl, rfl, rfl, hm.1.free hn, upd_same, .nil⟩ (by simp) (fun a z => by
    have : a = p := by simpa using z
    rw [this]; exact hn)⟩
/-- x[j] = e of an own dict -/
def fPut (i : Nat) (fe fj : Env → Res D) : FS := fun ρ => match ρ[i]? with
  | some (some (.dic ks ds)) => lift (fe ρ) ρ fun d => lift (fj ρ) ρ fun y => match keyD y with
    | some k => if szOk (ks.length + 1) = true then .ok (.nx (ρ.set i (some (.dic (putKs ks k) (putVs ks ds k d))))) else .er
    | none => .er
  | _ => .er
theorem js_dput (i : Nat) (hr : RmU X.A) (he : JE X E m .sh e f) (hj : JE X E m .sh j fj) (hmd : mdAt m i = .dk := by rfl) (hN : X.N[i]? = some x := by rfl) (hv : Vis X.env.scope x := by first | exact Or.inl rfl | exact Or.inr (Or.inl rfl) | exact Or.inr (Or.inr rfl))
    (hd : (x == ("__debug__" : Str)) = false := by decide) (hcd : (x == ("__classdict__" : Str)) = false := by decide) (hs : swapsWith e (some (.Subscript (.Name x p1) j p2)) pos.line X.env = pure false := by rfl) :
    JS X E L m m (.Assign [.Subscript (.Name x p1) j p2] e pos) (fPut i f fj) := by
  refine ⟨PSimp (ps_dput (by unfold RmU at hr; omega) (pe_var hN hv hd hcd) hj.pe he.pe hs) fun D σ H h => ?_⟩
  obtain ⟨S0, H0, ρ, ⟨S, Fp, st⟩, p⟩ := h
  unfold fPut at p
  split at p
  · rename_i ks ds exs
    refine ⟨S, ρ, st.envM, (lift_post st p).post fun d v S1 H1 s1 r k1 => ?_⟩
    have st1 := st.step s1
    obtain ⟨w, e1, o⟩ := st1.2.1.at_ i _ exs
    refine ⟨w, e1, S1, ρ, st1.envM, (lift_post st1 k1).post fun y vy S2 H2 s2 ry k2 => ?_⟩
    have st2 := st1.step s2
    obtain ⟨w2, e2, o2⟩ := st2.2.1.at_ i _ exs
    rw [e1] at e2
    cases e2
    rw [hmd] at o2
    obtain ⟨q, kvs, ds', ew, ed, efp, sq, hq, rv⟩ := o2
    cases ed
    cases ek : keyD y with
    | none => rw [ek] at k2; exact k2.elim
    | some kk =>
      rw [ek] at k2
      have k2 : SPost X.K X.mg E L S0 H0 m (if szOk ((kvs.map (·.1)).length + 1) = true then .ok (.nx (ρ.set i (some (.dic (putKs (kvs.map (·.1)) kk) (putVs (kvs.map (·.1)) ds kk d))))) else .er) D := k2
      split at k2
      · rename_i hz
        have hz := szOk_lt hz
        rw [List.length_map] at hz
        have ey := keyD_ok ry ek
        obtain ⟨pk1, pk2⟩ := put_ok (k := kk) rv (r.mono s2.ss)
        refine ⟨q, upd H2 q (.dK (putK kvs kk v)), ew, by rw [ey]; exact DPut.k hq hz, ?_⟩
        refine k2 σ _ (st2.writeG (v := w) (d1 := .dic (putKs (kvs.map (·.1)) kk) (putVs (kvs.map (·.1)) ds kk d)) exs efp e1 sq ?_).stM
        rw [hmd]
        exact ⟨q, putK kvs kk v, _, ew, by rw [pk1], rfl, sq, upd_same, pk2⟩
      · exact k2.elim
  · exact p.elim
/-- d[j] of an own dict -/
theorem je_dgetO (i : Nat) (hr : RmU X.A) (hj : JE X E m .sh j fj) (hmd : mdAt m i = .dk := by rfl) (hN : X.N[i]? = some x := by rfl) (hv : Vis X.env.scope x := by first | exact Or.inl rfl | exact Or.inr (Or.inl rfl) | exact Or.inr (Or.inr rfl))
    (hd : (x == ("__debug__" : Str)) = false := by decide) (hcd : (x == ("__classdict__" : Str)) = false := by decide) (hs : NoSl j := by intro _ _; rfl) : JE X E m .sh (.Subscript (.Name x p1) j pos) (f2 dGetD (fV i) fj) := by
  refine ⟨PEimp (pe_dget (by unfold RmU at hr; omega) (pe_var hN hv hd hcd) hj.pe hs) fun σ H Q h => ?_⟩
  obtain ⟨S, ρ, hm, hp⟩ := h
  obtain ⟨hs0, Fp, en⟩ := id hm
  unfold f2 fV at hp
  split at hp
  · rename_i d ed
    obtain ⟨v, e1, o⟩ := en.at_ i d ed
    have o1 := o
    rw [hmd] at o1
    obtain ⟨q, kvs, ds, ev, e0, _, sq, hq, rv⟩ := o1
    subst e0
    have hp : Post X.K X.mg (WE E σ) S H .sh ((fj ρ).bind fun y => dGetD (.dic (kvs.map (·.1)) ds) y) Q := hp
    refine ⟨v, e1, S, ρ, hm, (Post.bind hp).post fun dy vy S1 H1 s1 ry k1 => ?_⟩
    cases ek : keyD dy with
    | none => unfold dGetD at k1; rw [ek] at k1; exact k1.elim
    | some kk =>
      have ey := keyD_ok ry ek
      have k2 : Post X.K X.mg (WE E σ) S1 H1 .sh (match look (kvs.map (·.1)) ds kk with
        | some d => .ok d
        | none => .er) Q := by
        unfold dGetD at k1
        rw [ek] at k1
        exact k1
      rcases look_ok (k := kk) rv with ⟨e3, _⟩ | ⟨d', w, e3, e4, rw'⟩
      · rw [e3] at k2; exact k2.elim
      · rw [e3] at k2
        refine ⟨q, w, ev, ?_, Post.val k2 s1.sub (rw'.mono s1.ss)⟩
        rw [ey, ← e4]
        exact DGet.k (s1.hh _ _ hq)
  · exact hp.elim
end
end Da
namespace Da
open PySem PySem.Spec L2
end Da
namespace Da
open PySem PySem.Spec L2
end Da
namespace Da
open PySem PySem.Spec L2
end Da
namespace Da
open PySem PySem.Spec L2
def Rf {α β : Type} (m : Res β) (r : Res α) (e : α → β) : Prop := match r with
  | .ok v => m = .ok (e v)
  | .ex c fs => m = .ex c fs
  | .er => True
section
variable {α β γ δ : Type} {m : Res β} {r : Res α} {e : α → β} {k : β → Res δ} {h : α → Res γ} {o : γ → δ} {v : α}
theorem rf_ok (h : m = .ok (e v)) : Rf m (.ok v) e := h
theorem b_p {d : β} {r : Res γ} (hm : m = .ok d) (hk : Rf (k d) r o) : Rf (m.bind k) r o := by rw [hm]; exact hk
theorem b_i (hm : Rf m r e) (hk : ∀ x, Rf (k (e x)) (h x) o) : Rf (m.bind k) (r.bind h) o := by
  cases r with
  | ok v => rw [show m = _ from hm]; exact hk v
  | ex c fs => rw [show m = _ from hm]; exact rfl
  | er => exact trivial
/-- without exceptions -/
def nx {α : Type} (r : Res α) : Res α := match r with
  | .ok v => .ok v
  | _ => .er
@[simp] theorem nx_ok {α : Type} {v : α} : nx (.ok v) = .ok v := rfl
theorem rf_use {v : α} (hm : Rf m r e) (hr : r = .ok v) : m = .ok (e v) := by rw [hr] at hm; exact hm
end
section
variable {α γ δ : Type} {ρ : Env} {fa : Env → Res D} {fs : Env → Res (List D)} {k : List D → Res δ} {o : γ → δ}
theorem a_0 {r : Res γ} (h : Rf (k []) r o) : Rf ((fA0 ρ).bind k) r o := h
theorem a_p {d : D} {r : Res γ} (ha : fa ρ = .ok d) (h : Rf ((fs ρ).bind fun xs => k (d :: xs)) r o) : Rf ((fA fa fs ρ).bind k) r o := by
  show Rf (((fa ρ).bind _).bind k) r o
  rw [ha]
  show Rf (((fs ρ).bind fun xs => .ok (d :: xs)).bind k) r o
  revert h
  cases fs ρ <;> exact id
theorem a_i {ra : Res α} {ea : α → D} {h : α → Res γ} (ha : Rf (fa ρ) ra ea) (hk : ∀ x, Rf ((fs ρ).bind fun xs => k (ea x :: xs)) (h x) o) : Rf ((fA fa fs ρ).bind k) (ra.bind h) o := by
  cases ra with
  | ok v => exact a_p ha (hk v)
  | ex c fs' =>
    show ((fa ρ).bind _).bind k = _
    rw [show fa ρ = _ from ha]
    rfl
  | er => exact trivial
end
section
variable {ρ : Env} {fa fb f : Env → Res D} {g : D → Res D} {g2 : D → D → Res D} {c ca cb : Env → Res Bool} {x y z : D} {a b : Bool}
theorem ev1 (ha : fa ρ = .ok x) (hg : g x = .ok z) : f1 g fa ρ = .ok z := by unfold f1; rw [ha]; exact hg
theorem ev2 (ha : fa ρ = .ok x) (hb : fb ρ = .ok y) (hg : g2 x y = .ok z) : f2 g2 fa fb ρ = .ok z := by unfold f2; rw [ha]; show (fb ρ).bind _ = _; rw [hb]; exact hg
theorem evB (ha : f ρ = .ok (.bl a)) : fB f ρ = .ok a := by unfold fB; rw [ha]; rfl
theorem evBv (ha : c ρ = .ok a) : fBv c ρ = .ok (.bl a) := by unfold fBv; rw [ha]; rfl
theorem evTr (ha : f ρ = .ok x) (ht : trD x = .ok a) : fTr f ρ = .ok a := by unfold fTr; rw [ha]; exact ht
theorem evNot (ha : c ρ = .ok a) : fNot c ρ = .ok (!a) := by unfold fNot; rw [ha]; rfl
theorem evAnd (ha : ca ρ = .ok a) (hb : cb ρ = .ok b) : fAnd ca cb ρ = .ok (a && b) := by unfold fAnd; rw [ha]; cases a <;> first | rfl | exact hb
theorem evAndT (ha : ca ρ = .ok true) (hb : cb ρ = .ok b) : fAnd ca cb ρ = .ok b := by unfold fAnd; rw [ha]; exact hb
theorem evOrF (ha : ca ρ = .ok false) (hb : cb ρ = .ok b) : fOr ca cb ρ = .ok b := by unfold fOr; rw [ha]; exact hb
theorem evSc (h : f ρ = .ok x) (hs : isSc x = true) : fSc f ρ = .ok x := by unfold fSc; rw [h]; show (if isSc x = true then _ else _) = _; rw [hs]; rfl
theorem evNx {α : Type} {f : Env → Res α} {x : α} (h : f ρ = .ok x) : fNx f ρ = .ok x := by unfold fNx; rw [h]
theorem evA {fs : Env → Res (List D)} {xs : List D} (ha : fa ρ = .ok x) (hs : fs ρ = .ok xs) : fA fa fs ρ = .ok (x :: xs) := by unfold fA; rw [ha]; show (fs ρ).bind _ = _; rw [hs]; rfl
theorem evOn {fs : Env → Res (List D)} {xs : List D} {g : List D → Res D} (ha : fs ρ = .ok xs) (hg : g xs = .ok z) : fOn g fs ρ = .ok z := by unfold fOn; rw [ha]; exact hg
theorem evL {xs : List D} (ha : f ρ = .ok x) (hx : asL x = .ok xs) : fL f ρ = .ok xs := by unfold fL; rw [ha]; exact hx
variable {α γ : Type} {o : γ → D} {oB : γ → Bool} {ra : Res α} {ea : α → D}
theorem rOr {rb : Res Bool} (ha : ca ρ = .ok a) (hb : Rf (cb ρ) rb (fun x => x)) : Rf (fOr ca cb ρ) (if a = true then .ok true else rb) (fun x => x) := by
  unfold fOr; rw [ha]; cases a with
  | true => exact rfl
  | false => exact hb
theorem rAndI {ra rb : Res Bool} (ha : Rf (ca ρ) ra (fun x => x)) (hb : Rf (cb ρ) rb (fun x => x)) : Rf (fAnd ca cb ρ) (ra.bind fun a => if a = true then rb else .ok false) (fun x => x) := b_i ha fun a => by
  cases a with
  | true => exact hb
  | false => exact rfl
theorem rOrI {ra rb : Res Bool} (ha : Rf (ca ρ) ra (fun x => x)) (hb : Rf (cb ρ) rb (fun x => x)) : Rf (fOr ca cb ρ) (ra.bind fun a => if a = true then .ok true else rb) (fun x => x) := b_i ha fun a => by
  cases a with
  | true => exact rfl
  | false => exact hb
theorem rNx {α : Type} {β : Type} {f : Env → Res β} {ra : Res α} {ea : α → β} (h : Rf (f ρ) ra ea) : Rf (fNx f ρ) (nx ra) ea := by
  cases ra with
  | ok v => exact evNx h
  | _ => exact trivial
end
def eL {α : Type} (e : α → D) : List α → D := fun xs => .lst (xs.map e)
def eT {α : Type} (e : α → D) : List α → D := fun xs => .tup (xs.map e)
def eF {α : Type} (e : α → D) : List α → D := fun xs => .frl (xs.map e)
def eO {α : Type} (e : α → D) : Option α → D := fun x => match x with
  | none => .non
  | some v => e v
def eN : Unit → D := fun _ => .non
def eP1 {α : Type} (e : α → D) : α → D := fun p => .tup [e p]
def eP2 {α β : Type} (e : α → D) (f : β → D) : α × β → D := fun p => .tup [e p.1, f p.2]
def eP3 {α β γ : Type} (e : α → D) (f : β → D) (g : γ → D) : α × β × γ → D := fun p => .tup [e p.1, f p.2.1, g p.2.2]
def eP4 {α β γ δ : Type} (e : α → D) (f : β → D) (g : γ → D) (h : δ → D) : α × β × γ × δ → D := fun p => .tup [e p.1, f p.2.1, g p.2.2.1, h p.2.2.2]
def eH4 {α β γ δ : Type} (e : α → D) (f : β → D) (g : γ → D) (h : δ → D) : α × β × γ × δ → D := fun p => .lst [e p.1, f p.2.1, g p.2.2.1, h p.2.2.2]
/-- own objects: by their fields' encoders -/
def eOb1 {α : Type} (c : Str) (n1 : Str) (e : α → D) : α → D := fun p => .obj c [n1] [e p]
def eOb2 {α β : Type} (c : Str) (n1 n2 : Str) (e : α → D) (f : β → D) : α × β → D := fun p => .obj c [n1, n2] [e p.1, f p.2]
def eOb3 {α β γ : Type} (c : Str) (n1 n2 n3 : Str) (e : α → D) (f : β → D) (g : γ → D) : α × β × γ → D := fun p => .obj c [n1, n2, n3] [e p.1, f p.2.1, g p.2.2]
def eOb4 {α β γ δ : Type} (c : Str) (n1 n2 n3 n4 : Str) (e : α → D) (f : β → D) (g : γ → D) (h : δ → D) : α × β × γ × δ → D := fun p => .obj c [n1, n2, n3, n4] [e p.1, f p.2.1, g p.2.2.1, h p.2.2.2]
def mulR (i j : Int) : Res Int := if mulOk i j = true then .ok (i * j) else .er
def divR (i j : Int) : Res Int := if 0 < j ∧ j.natAbs.log2 < 9000 then .ok (i / j) else if j < 0 ∧ j.natAbs.log2 < 9000 then .ok (-i / -j) else .er
def modR (i j : Int) : Res Int := if 0 < j then .ok (i % j) else .er
def powR (i j : Int) : Res Int := if powOk i j = true then .ok (i ^ j.toNat) else .er
def ixR {α : Type} (xs : List α) (i : Int) : Res α := match atI xs i with
  | some x => .ok x
  | none => .er
def catR {α : Type} (xs ys : List α) : Res (List α) := if szOk (xs.length + ys.length) = true then .ok (xs ++ ys) else .er
def appR {α : Type} (xs : List α) (x : α) : Res (List α) := if szOk (xs.length + 1) = true then .ok (xs ++ [x]) else .er
def repR {α : Type} (xs : List α) (k : Int) : Res (List α) := if repOk xs.length k = true then .ok (List.replicate k.toNat xs).flatten else .er
def setR {α : Type} (xs : List α) (i : Int) (x : α) : Res (List α) := match ixN xs.length i with
  | some k => .ok (xs.set k x)
  | none => .er
def popR {α : Type} (xs : List α) (i : Int) : Res (α × List α) := match ixN xs.length i with
  | some k => (match xs[k]? with
    | some y => if szOk xs.length = true then .ok (y, xs.eraseIdx k) else .er
    | none => .er)
  | none => .er
def rngI (lo : Int) (n : Nat) : List Int := (List.range n).map fun (i : Nat) => lo + (i : Int)
def rngR (j : Int) : Res (List Int) := if rngOk 0 j = true then .ok (rngI 0 j.toNat) else .er
def rngLR (j : Int) : Res (List Int) := if rgnOk 0 j = true then .ok (rngI 0 j.toNat) else .er
def enumI {α : Type} (i : Nat) : List α → List (Int × α)
  | [] => []
  | x :: xs => ((i : Int), x) :: enumI (i + 1) xs
def idxR (xs : List Int) (k : Int) : Res Int := if k ∈ xs then .ok (xs.idxOf k : Nat) else .er
def cutN {α : Type} (xs : List α) (lo hi : Option Int) : List α := (xs.drop (HT.sIx xs.length 0 lo)).take (HT.sIx xs.length xs.length hi - HT.sIx xs.length 0 lo)
/-- comprehensions -/
def lcR {α β : Type} (xs : List α) (c : α → Res Bool) (f : α → Res β) : Res (List β) := if szOk xs.length = true then go xs else .er
where go : List α → Res (List β)
  | [] => .ok []
  | x :: xs => (nx (c x)).bind fun b => if b = true then (nx (f x)).bind fun y => (go xs).bind fun ys => .ok (y :: ys) else go xs
/-- loops -/
inductive Ctl (σ β : Type) where
  | go (s : σ) | out (s : σ) | ret (b : β)
def forR {α σ : Type} (f : σ → α → Res σ) : List α → σ → Res σ
  | [], s => .ok s
  | x :: xs, s => (f s x).bind fun s => forR f xs s
/-- with breaks and returns -/
def forC {α σ β : Type} (f : σ → α → Res (Ctl σ β)) : List α → σ → Res (Ctl σ β)
  | [], s => .ok (.go s)
  | x :: xs, s => (f s x).bind fun o => match o with
    | .go s => forC f xs s
    | .out s => .ok (.go s)
    | .ret b => .ok (.ret b)
def whileC {σ β : Type} (c : σ → Res Bool) (f : σ → Res (Ctl σ β)) : Nat → σ → Res (Ctl σ β)
  | 0, _ => .er
  | n + 1, s => (c s).bind fun b => if b = true then (f s).bind fun o => (match o with
    | .go s => whileC c f n s
    | .out s => .ok (.go s)
    | .ret b => .ok (.ret b)) else .ok (.go s)
/-- a loop's end without a return -/
def ctlS {σ β : Type} (o : Ctl σ β) : Res σ := match o with
  | .go s => .ok s
  | .out s => .ok s
  | .ret _ => .er
structure Fin {δ : Type} (K : Res Fl → Res δ) : Prop where
  xc : ∀ c fs ρ, K (.ok (.xc c fs ρ)) = .ex c fs
/-- the slots vs forgotten -/
def fgt (vs : List Nat) (m : Res Fl) : Res Fl := match m with
  | .ok (.nx ρ) => .ok (.nx (wipeD ρ vs))
  | .ok (.bk ρ) => .ok (.bk (wipeD ρ vs))
  | .ok (.ct ρ) => .ok (.ct (wipeD ρ vs))
  | m => m
def fFgt (vs : List Nat) (F : FS) : FS := fun ρ => fgt vs (F ρ)
def finS (vs : List Nat) (m : Res Fl) : Res Fl := match m with
  | .ok (.nx ρ) => .ok (.nx (wipeD ρ vs))
  | .ok (.xc c fs _) => .ex c fs
  | _ => .er
def finL (vs : List Nat) (m : Res Fl) : Res Fl := match m with
  | .ok (.nx ρ) => .ok (.nx (wipeD ρ vs))
  | .ok (.ct ρ) => .ok (.nx (wipeD ρ vs))
  | .ok (.bk ρ) => .ok (.bk (wipeD ρ vs))
  | .ok (.rt d) => .ok (.rt d)
  | .ok (.xc c fs _) => .ex c fs
  | _ => .er
def finF (md : Md) (m : Res Fl) : Res D := match m with
  | .ok (.rt d) => .ok d
  | .ok (.nx _) => if md = .sh then .ok .non else .er
  | .ok (.xc c fs _) => .ex c fs
  | _ => .er
def finI (m : Res Fl) : Res D := match m with
  | .ok (.nx ρ) => (match ρ[0]? with
    | some (some d) => .ok d
    | _ => .er)
  | .ok (.xc c fs _) => .ex c fs
  | _ => .er
theorem fin_S {vs : List Nat} : Fin (finS vs) := ⟨fun _ _ _ => rfl⟩
theorem fin_L {vs : List Nat} : Fin (finL vs) := ⟨fun _ _ _ => rfl⟩
theorem fin_F {md : Md} : Fin (finF md) := ⟨fun _ _ _ => rfl⟩
theorem fin_I : Fin finI := ⟨fun _ _ _ => rfl⟩
section
variable {α β γ δ σ : Type} {K : Res Fl → Res δ} {F G A B C : FS} {ρ ρ' : Env} {N N1 N2 : Res γ} {o : γ → δ} {r : Res α} {E : α → Env} {k : α → Res γ} {c : Env → Res Bool} {b : Bool} {f : Env → Res D} {e : α → D} {v : α} {d : D} {i : Nat}
theorem n_runF {n : Nat} {md : Md} {ds : List D} {e : γ → D} (h : Rf (finF md (F (startE n ds))) N e) : Rf (runF n md F ds) N e := h
theorem n_runI {n : Nat} {cn : Str} {ds : List D} {e : γ → D} (h : Rf (finI (F (some (.obj cn [] []) :: (ds.map some ++ List.replicate (n - 1 - ds.length) none)))) N e) : Rf (runI n cn F ds) N e := h
theorem finS_nx {vs : List Nat} {m : Res Fl} {ρ : Env} (h : finS vs m = .ok (.nx ρ)) : ∃ ρ1, m = .ok (.nx ρ1) ∧ wipeD ρ1 vs = ρ := by
  unfold finS at h
  split at h
  · cases h; exact ⟨_, rfl, rfl⟩
  · cases h
  · cases h
theorem finS_ex {vs : List Nat} {m : Res Fl} {c : Str} {fs : List (Str × D)} (h : finS vs m = .ex c fs) : ∃ ρ1, m = .ok (.xc c fs ρ1) := by
  unfold finS at h
  split at h
  · cases h
  · cases h; exact ⟨_, rfl⟩
  · cases h
theorem t_seq (hK : Fin K) (E : α → Env) (h : Rf (finS [] (F ρ)) r (fun s => .nx (E s))) (hk : ∀ s, Rf (K (G (E s))) (k s) o) : Rf (K (fSeq F G ρ)) (r.bind k) o := by
  cases r with
  | ok s =>
    obtain ⟨ρ1, e1, e2⟩ := finS_nx h
    have e2 : ρ1 = E s := e2
    subst e2
    rw [fSeq_nx e1]
    exact hk s
  | ex c fs =>
    obtain ⟨ρ1, e1⟩ := finS_ex h
    have : fSeq F G ρ = .ok (.xc c fs ρ1) := by unfold fSeq; rw [e1]
    rw [this, hK.xc]
    exact rfl
  | er => exact trivial
theorem t_seqp (ρ' : Env) (h : F ρ = .ok (.nx ρ')) (hk : Rf (K (G ρ')) N o) : Rf (K (fSeq F G ρ)) N o := by rw [fSeq_nx h]; exact hk
theorem t_end (h : Rf (K (fSeq F fNext ρ)) N o) : Rf (K (F ρ)) N o := by
  have : fSeq F fNext ρ = F ρ := by
    unfold fSeq
    split
    · rename_i e; rw [e]; rfl
    · rfl
  rw [this] at h
  exact h
theorem t_assoc (h : Rf (K (fSeq A (fSeq B C) ρ)) N o) : Rf (K (fSeq (fSeq A B) C ρ)) N o := by
  have : fSeq A (fSeq B C) ρ = fSeq (fSeq A B) C ρ := by
    show andThen (A ρ) (fSeq B C) = andThen (andThen (A ρ) B) C
    cases A ρ with
    | ok x => cases x <;> rfl
    | _ => rfl
  rw [this] at h
  exact h
theorem t_nextS (h : Rf (K (G ρ)) N o) : Rf (K (fSeq fNext G ρ)) N o := h
theorem t_next {v : γ} (h : K (.ok (.nx ρ)) = .ok (o v)) : Rf (K (fNext ρ)) (.ok v) o := h
theorem t_brk {v : γ} (h : K (.ok (.bk ρ)) = .ok (o v)) : Rf (K (fSeq fBrk G ρ)) (.ok v) o := h
theorem t_retp {v : γ} {d : D} (hf : f ρ = .ok d) (h : K (.ok (.rt d)) = .ok (o v)) : Rf (K (fSeq (fRet f) G ρ)) (.ok v) o := by
  show K (fSeq (fRet f) G ρ) = _
  have : fSeq (fRet f) G ρ = .ok (.rt d) := by unfold fSeq fRet; rw [hf]; rfl
  rw [this, h]
/-- at a def's level -/
theorem t_retF {md : Md} {e : γ → D} (hf : Rf (f ρ) N e) : Rf (finF md (fSeq (fRet f) G ρ)) N e := by
  cases N with
  | ok v => exact t_retp hf rfl
  | ex c fs =>
    have : fSeq (fRet f) G ρ = .ok (.xc c fs ρ) := by unfold fSeq fRet; rw [show f ρ = _ from hf]; rfl
    rw [this]
    exact rfl
  | er => exact trivial
theorem lift_p {α : Type} {r : Res α} {a : α} {k : α → Res Fl} (h : r = .ok a) : lift r ρ k = k a := by rw [h]; rfl
theorem t_if (hc : c ρ = .ok b) (h1 : Rf (K (fSeq A G ρ)) N1 o) (h2 : Rf (K (fSeq B G ρ)) N2 o) : Rf (K (fSeq (fIfS c A B) G ρ)) (if b = true then N1 else N2) o := by
  have : fSeq (fIfS c A B) G ρ = if b = true then fSeq A G ρ else fSeq B G ρ := by
    show andThen (lift (c ρ) ρ _) G = _
    rw [lift_p hc]
    cases b <;> rfl
  rw [this]
  cases b with
  | true => exact h1
  | false => exact h2
theorem t_ifT (hc : c ρ = .ok true) (h1 : Rf (K (fSeq A G ρ)) N o) : Rf (K (fSeq (fIfS c A B) G ρ)) N o := t_if (N2 := .er) hc h1 trivial
theorem t_ifF (hc : c ρ = .ok false) (h1 : Rf (K (fSeq B G ρ)) N o) : Rf (K (fSeq (fIfS c A B) G ρ)) N o := t_if (N1 := .er) hc trivial h1
theorem t_ifI (hK : Fin K) {rc : Res Bool} (hc : Rf (c ρ) rc (fun x => x)) (h1 : Rf (K (fSeq A G ρ)) N1 o) (h2 : Rf (K (fSeq B G ρ)) N2 o) : Rf (K (fSeq (fIfS c A B) G ρ)) (rc.bind fun b => if b = true then N1 else N2) o := by
  cases rc with
  | ok b => exact t_if hc h1 h2
  | ex cn fs =>
    have : fSeq (fIfS c A B) G ρ = .ok (.xc cn fs ρ) := by
      show andThen (lift (c ρ) ρ _) G = _
      rw [show c ρ = _ from hc]
      rfl
    rw [this, hK.xc]
    exact rfl
  | er => exact trivial
/-- single statements -/
theorem s_if {vs : List Nat} (hF : Rf (finS vs (fSeq F fNext ρ)) N1 o') : Rf (finS [] (fFgt vs F ρ)) N1 o' := by
  have h := t_end hF
  have : finS [] (fFgt vs F ρ) = finS vs (F ρ) := by
    unfold fFgt fgt finS
    cases F ρ with
    | ok x => cases x <;> rfl
    | _ => rfl
  rw [this]
  exact h
theorem s_setp (E : α → Env) (hf : f ρ = .ok (e v)) (hE : ρ.set i (some (e v)) = E v) : Rf (finS [] (fSet i f ρ)) (.ok v) (fun s => .nx (E s)) := by
  show finS [] (lift (f ρ) ρ _) = _
  rw [lift_p hf]
  show Res.ok (Fl.nx (ρ.set i (some (e v)))) = Res.ok (Fl.nx (E v))
  rw [hE]
theorem s_set (E : α → Env) (hf : Rf (f ρ) r e) (hE : ∀ v, ρ.set i (some (e v)) = E v) : Rf (finS [] (fSet i f ρ)) r (fun s => .nx (E s)) := by
  cases r with
  | ok v => exact s_setp E hf (hE v)
  | ex c fs =>
    show finS [] (lift (f ρ) ρ _) = _
    rw [show f ρ = _ from hf]
    rfl
  | er => exact trivial
theorem s_drop (hf : Rf (f ρ) r e) : Rf (finS [] (fDrop f ρ)) r (fun _ => .nx ρ) := by
  cases r with
  | ok v => show finS [] (lift (f ρ) ρ _) = _; rw [lift_p hf]; rfl
  | ex c fs => show finS [] (lift (f ρ) ρ _) = _; rw [show f ρ = _ from hf]; rfl
  | er => exact trivial
end
end Da
namespace Da
open PySem PySem.Spec L2
theorem wipe_some {ρ : Env} {i : Nat} {d : D} : ∀ {vs : List Nat}, (wipeD ρ vs)[i]? = some (some d) → ρ[i]? = some (some d)
  | [], h => h
  | v :: vs, h => by
    unfold wipeD at h
    rw [List.getElem?_set] at h
    split at h
    · split at h <;> cases h
    · exact wipe_some h
theorem wipe_len {ρ : Env} : ∀ {vs : List Nat}, (wipeD ρ vs).length = ρ.length
  | [] => rfl
  | v :: vs => by unfold wipeD; rw [List.length_set, wipe_len]
section
variable {K : PySem.W.Frag} {mg : Str → Option Value} {m : Mds} {S0 H0 H : Hp} {σ : L2.St} {ρ : Env} {vs : List Nat}
theorem StM.wipe (h : StM K mg m S0 H0 σ ρ H) : StM K mg m S0 H0 σ (wipeD ρ vs) H := by
  obtain ⟨S, F, h1, h2, h3⟩ := h
  exact ⟨S, F, h1, ⟨by rw [wipe_len]; exact h2.len, fun i d e => h2.at_ i d (wipe_some e), fun i d e => h2.nd i d (wipe_some e), fun i j d e n a b => h2.apart i j d e n (wipe_some a) (wipe_some b)⟩, fun i d e => h3 i d (wipe_some e)⟩
theorem spost_fgt {E : WX} {L : Lp} {m' : Mds} {o : Res Fl} {Dn : Ends} (h : SPost K mg E L S0 H0 m' (fgt vs o) Dn) : SPost K mg E L S0 H0 m' o Dn := by
  cases o with
  | ok o =>
    cases o with
    | nx ρ => exact fun σ H s => h σ H s.wipe
    | bk ρ => exact fun σ H s => h σ H s.wipe
    | ct ρ => exact fun σ H s => h σ H s.wipe
    | rt d => exact h
    | xc c fs ρ => exact h
  | ex c fs => exact h
  | er => exact h
end
section
variable {X : Cx} {E : WX} {L : Lp} {m m' : Mds} {st : Stmt} {sts : List Stmt} {F : FS}
theorem js_fgt (vs : List Nat) (h : JS X E L m m' st F) : JS X E L m m' st (fFgt vs F) :=
  ⟨PSimp h.ps fun D σ H q => by
    obtain ⟨S0, H0, ρ, a, b⟩ := q
    exact ⟨S0, H0, ρ, a, spost_fgt b⟩⟩
theorem jss_fgt (vs : List Nat) (h : JSs X E L m m' sts F) : JSs X E L m m' sts (fFgt vs F) :=
  ⟨PSsimp h.ps fun D σ H q => by
    obtain ⟨S0, H0, ρ, a, b⟩ := q
    exact ⟨S0, H0, ρ, a, spost_fgt b⟩⟩
end
end Da
namespace Da
open PySem PySem.Spec L2
/-- raise c(..): the fields stand in the reverse of their order -/
def fRaise (c : Str) (ns : List Str) (fs : Env → Res (List D)) : FS := fun ρ => lift (fs ρ) ρ fun ds => if ds.length = ns.length then .ok (.xc c (ns.zip ds).reverse ρ) else .er
def tInit (K : PySem.W.Frag) : List (Str × Nat) → TS
  | [] => tNext
  | q :: r => tSeq (tOst K q.1 (tVar 0) (tVar q.2)) (tInit K r)
/-- the error at a, with the fields acc stored so far -/
def Made (a C : Addr) (H0 : Hp) (acc : List (Str × V)) (H : Hp) : Prop := (acc = [] ∧ H = H0 ∧ H0 a = some (exo a C none)) ∨ ∃ d, H0 d = none ∧ d ≠ a ∧ H = upd (upd H0 d (exd d acc)) a (exo a C (some d))
theorem upd_twice {H : Hp} {a : Addr} {o u : HO} : upd (upd H a o) a u = upd H a u := by
  funext b
  by_cases h : b = a
  · rw [h, upd_same, upd_same]
  · rw [upd_ne h, upd_ne h, upd_ne h]
theorem upd_swap {H : Hp} {a b : Addr} {o u : HO} (h : a ≠ b) : upd (upd H a o) b u = upd (upd H b u) a o := by
  funext x
  by_cases hb : x = b
  · subst hb
    rw [upd_same, upd_ne (fun z => h z.symm), upd_same]
  · rw [upd_ne hb]
    by_cases ha : x = a
    · subst ha; rw [upd_same, upd_same]
    · rw [upd_ne ha, upd_ne ha, upd_ne hb]
theorem init_run {K : PySem.W.Frag} {a C : Addr} {σ : L2.St} {D : Ends} {H0 : Hp} (T : OexC K C) (hσ : σ[0]? = some (some (.ref a))) : ∀ (fj : List (Str × Nat)) (ys : List V) (acc : List (Str × V)) (H : Hp), fj.length = ys.length →
    (∀ (k : Nat) (q : Str × Nat) (y : V), fj[k]? = some q → ys[k]? = some y → σ[q.2]? = some (some y)) → (∀ q ∈ fj, PySem.W.findIn K (.ref C) q.1 = some none) → acc.length + fj.length ≤ 900 → Made a C H0 acc H →
    (∀ H', Made a C H0 (((fj.map (·.1)).zip ys).reverse ++ acc) H' → D.nx σ H') → tInit K fj D σ H
  | [], ys, acc, H, hl, hy, hn, hz, hm, k => k H hm
  | q :: r, [], acc, H, hl, hy, hn, hz, hm, k => by cases hl
  | q :: r, y :: ys, acc, H, hl, hy, hn, hz, hm, k => by
    have go : ∀ H', Made a C H0 ((q.1, y) :: acc) H' → tInit K r D σ H' := fun H' m' => by
      refine init_run T hσ r ys _ H' (by simpa using hl) (fun k' q' y' a b => hy (k' + 1) q' y' (by simpa using a) (by simpa using b)) (fun q' h' => hn q' (List.mem_cons_of_mem _ h')) (by simp at hz ⊢; omega) m' fun H2 m2 => k H2 ?_
      simpa using m2
    refine ⟨y, hy 0 q y rfl rfl, .ref a, hσ, a, C, rfl, T, hn q List.mem_cons_self, ?_⟩
    rcases hm with ⟨e1, e2, e3⟩ | ⟨d, e1, e2, e3⟩
    · subst e1; subst e2
      exact .inl ⟨e3, fun dx hd hne => go _ (.inr ⟨dx, hd, hne, rfl⟩)⟩
    · subst e3
      refine .inr ⟨d, acc, upd_same, by rw [upd_ne e2]; exact upd_same, by simp at hz; omega, go _ (.inr ⟨d, e1, e2, ?_⟩)⟩
      rw [upd_swap (fun z => e2 z.symm), upd_twice]
/-- what such an __init__ promises -/
def spX (K : PySem.W.Frag) (C : Addr) (ns : List Str) : Sp := fun vs H Q _ => ∃ a us, vs = .ref a :: us ∧ us.length = ns.length ∧ H a = some (exo a C none) ∧ ∀ d, H d = none → d ≠ a → Q .non (upd (upd H d (exd d (ns.zip us).reverse)) a (exo a C (some d)))
/-- an own error class with such an __init__ -/
def ErrN (P : Program) (w : World) (K : PySem.W.Frag) (mg : Str → Option Value) (base : Heap) (x : Str) (k : Nat) (ns : List Str) : Prop := ∃ C fI fd ps, mg x = some (.ref C) ∧ OexC K C ∧
  PySem.W.findIn K (.ref C) "__init__" = some (some (.ref fI)) ∧ PySem.W.typeIn K (.ref fI) = some (.type "function") ∧ Binds K fd ps [] ∧ FnOk P w K mg base (L2.CX P w) k fI fd ps (spX K C ns)
def ErrAt (K : PySem.W.Frag) (mg : Str → Option Value) (x qual : Str) (st : Stmt) (ps ns : List Str) : Prop := ∃ C fI fd, mg x = some (.ref C) ∧ OexC K C ∧
  PySem.W.findIn K (.ref C) "__init__" = some (some (.ref fI)) ∧ PySem.W.typeIn K (.ref fI) = some (.type "function") ∧ Fun K "__init__" qual st fI fd ∧ Binds K fd ps [] ∧ ∀ f ∈ ns, PySem.W.findIn K (.ref C) f = some none
section
variable {P : Program} {w : World} {K : PySem.W.Frag} {mg : Str → Option Value} {base h : Heap} {x qual : Str} {st : Stmt} {ps ns N : List Str} {k : Nat}
theorem errN_of {fj : List (Str × Nat)} (dA : ErrAt K mg x qual st ps ns) (Sc : FnScope N ps (defScope st)) (hns : fj.map (·.1) = ns) (hj : fj.map (·.2) = (List.range ns.length).map (· + 1)) (hps : ps.length = ns.length + 1) (hN : N.length = ps.length) (h0 : ns ≠ []) (hz : ns.length ≤ 900)
    (h : ∀ (f : Addr) (cdv : Value) (A : Around) (outer : List PySem.Env) (s : Shared) (H : Hp) (E : XK), PSs (cxOf (L2.CX P w) P w K mg base N qual (defScope st) f cdv A outer s H E) (defBody st) (tInit K fj)) : ErrN P w K mg base x (k + 1) ns := by
  obtain ⟨C, fI, fd, hC, T, i1, i2, Fn, bd, hf⟩ := dA
  refine ⟨C, fI, fd, ps, hC, T, i1, i2, bd, Fn.okX Sc (fun vs H Q E hsp => ?_) (fun cdv A outer s H vs Q E hr hsp => ⟨_, h fI cdv A outer s H E, ?_⟩)⟩
  · obtain ⟨a, us, rfl, e, _⟩ := hsp
    rw [List.length_cons, e, hps]
  · obtain ⟨a, us, rfl, e, ea, q⟩ := hsp
    have hfl : fj.length = ns.length := by rw [← hns, List.length_map]
    have hst : L2.start N (.ref a :: us) = (V.ref a :: us).map some := by
      unfold L2.start
      rw [show N.length - (V.ref a :: us).length = 0 from by rw [hN, hps, List.length_cons, e]; omega]
      simp
    refine init_run T (by rw [hst]; rfl) fj us [] H (by rw [hfl, e]) (fun k' q' y a1 a2 => ?_) (fun q' hq => hf _ (by rw [← hns]; exact List.mem_map_of_mem hq)) (by rw [hfl]; simpa using hz) (.inl ⟨rfl, rfl, ea⟩) fun H' m' => ?_
    · have : (fj.map (·.2))[k']? = some q'.2 := by rw [List.getElem?_map, a1]; rfl
      rw [hj, List.getElem?_map] at this
      have hk : k' < ns.length := by rw [← hfl]; exact (List.getElem?_eq_some_iff.mp a1).1
      rw [List.getElem?_range hk] at this
      have e2 : k' + 1 = q'.2 := by simpa using this
      rw [← e2, hst, List.getElem?_map, List.getElem?_cons_succ, a2]
      rfl
    · rw [List.append_nil] at m'
      rcases m' with ⟨z, _, _⟩ | ⟨d, e1, e2, e3⟩
      · exfalso
        have := congrArg List.length z
        rw [List.length_reverse, List.length_zip, List.length_map, hfl, e, Nat.min_self, List.length_nil] at this
        exact h0 (List.length_eq_zero_iff.mp this)
      · rw [e3, hns]
        exact q d e1 e2
theorem errAt_mk {C f : Addr} {oc : Value} {od an : Option Addr} {osl : Array (Option Value)} {kV doc pm cdv ct : Value} {nm q : Str} {Nx : Addr} {bs bm : List Value} {sn sub ab col : _} {dd : _} {k0 k1 k2 k3 k5 : _} (X : K.In h) (G : h.Ns mainGlobals mg) (a : PySem.W.nsIn K mainGlobals x = some (some (.ref C)))
    (e1 : K.lookup C = some (excClassObj nm q C Nx bs bm true sn sub ab col dd k0 k1 k2 k3 k5 "ValueError.__new__")) (e2 : PySem.HandSPX.refsVE bm = true) (e3 : PySem.W.findIn K (.ref C) "__setattr__" = some (some (.builtin "object.__setattr__"))) (e4 : PySem.W.subIn K (.ref C) (.type "BaseException") = some true)
    (e5 : PySem.W.typeIn K (.ref C) = some (.type "type")) (e6 : PySem.W.keepIn K (.ref C) = true) (m2 : PySem.W.findIn K (.ref C) "__init__" = some (some (.ref f))) (m3 : PySem.W.typeIn K (.ref f) = some (.type "function"))
    (l : K.lookup f = some ⟨oc, od, .func (PySem.W.fnOf "__init__" qual (defArgs st) (defBody st) (defScope st) .none kV doc pm an cdv ct), osl⟩) (cd : PySem.W.codeIn K cdv qual = true) (kf : PySem.W.keepIn K (.ref f) = true)
    (hb : ∀ (kV doc pm : Value) (an : Option Addr) (cdv ct : Value) (us : List Value), us.length = ps.length → bindArgs (PySem.W.fnOf "__init__" qual (defArgs st) (defBody st) (defScope st) .none kV doc pm an cdv ct) ⟨us, []⟩ = pure (ps.zip us))
    (hf : ∀ g ∈ ns, PySem.W.findIn K (.ref C) g = some none) : ErrAt K mg x qual st ps ns := by
  have Fn := fun_mk (st := st) l cd kf
  exact ⟨C, f, _, PySem.W.mg_of X G a, ⟨⟨_, _, _, _, _, _, _, _, _, _, _, _, _, _, _, e1, e2⟩, e3, e4, e5, e6⟩, m2, m3, Fn, Fn.binds hb, hf⟩
end
theorem RepL.rev {K : PySem.W.Frag} {mg : Str → Option Value} {S : Hp} {vs : List V} {ds : List D} (r : RepL K mg S vs ds) : RepL K mg S vs.reverse ds.reverse := by
  refine ⟨by rw [List.length_reverse, List.length_reverse, r.len], fun i v d a b => ?_⟩
  have hi : i < vs.length := by simpa using (List.getElem?_eq_some_iff.mp a).1
  rw [List.getElem?_reverse hi] at a
  rw [List.getElem?_reverse (by rw [← r.len]; exact hi), ← r.len] at b
  exact r.at_ _ v d a b
section
variable {X : Cx} {E : WX} {L : Lp} {m m' : Mds} {c : Str} {ns : List Str} {k : Nat} {p pos p1 : Pos} {e : Expr} {es : List Expr} {fs : Env → Res (List D)}
theorem js_raiseN (T : ErrN X.prog X.w X.K X.mg X.base c k ns) (hr : Room (k + 1) X.A) (tk : Takes X E) (ha : JA X E m (e :: es) fs) (hz : ns.length ≤ 900 := by decide) (hc : X.calm = true := by rfl) (hg : Gl X c := by rfl) (hdb : (c == ("__debug__" : Str)) = false := by decide)
    (he : starEach (e :: es) X.env = (false, eval e X.env) :: starEach es X.env := by rfl) (hpl : (backTo p1 (starEach es X.env)).any (·.1) = false := by rfl) :
    JS X E L m m' (.Raise (some (.Call (.Name c p) (e :: es) [] p1)) none pos) (fRaise c ns fs) := by
  obtain ⟨C, fI, fd, ps, gC, oC, i1, i2, bd, G⟩ := T
  have hx : Passes (L2.CX X.prog X.w) X (fun _ _ _ => False) := fun _ _ _ _ _ _ _ z => by
    obtain ⟨_, _, _, _, _, _, _, _, _, _, _, _, hE⟩ := z
    exact hE.elim
  refine ⟨PSimp (ps_raise hc tk (pmk_oex oC i1 i2 G hr bd .nil hx hg gC ha.pa hdb he hpl)) fun D σ H h => ?_⟩
  obtain ⟨S0, H0, ρ, ⟨S, Fp, st⟩, q⟩ := h
  refine ⟨S, ρ, st.envM, (lift_post st q).imp fun ds S1 H1 s1 q1 vs rs => ?_⟩
  split at q1
  · rename_i hl
    refine ⟨by rw [rs.len, hl]; exact Nat.le_trans hz (by decide), fun a na => ⟨a, vs, by rw [List.append_nil], by rw [rs.len, hl], upd_same, fun d nd hne => ?_⟩⟩
    have nd1 : H1 d = none := by rw [upd_ne hne] at nd; exact nd
    refine ⟨rfl, d, (ns.zip vs).reverse, upd_same, by rw [upd_ne hne]; exact upd_same, nd1, ?_⟩
    have eh : upd (del (upd (upd (upd H1 a (exo a C none)) d (exd d (ns.zip vs).reverse)) a (exo a C (some d))) a) d (.xd (ns.zip vs).reverse) = upd H1 d (.xd (ns.zip vs).reverse) := by
      funext b
      by_cases hb : b = d
      · rw [hb, upd_same, upd_same]
      · rw [upd_ne hb, upd_ne hb]
        by_cases hb2 : b = a
        · rw [hb2, del_same, na]
        · rw [del_ne hb2, upd_ne hb2, upd_ne hb, upd_ne hb2]
    rw [eh]
    have s2 := Step.laid (o := .xd (ns.zip vs).reverse) s1.sub nd1
    obtain ⟨S3, F3, st3, ss⟩ := ((st.step s1).step s2).weak (Weak.nil m)
    refine q1 σ S3 F3 _ _ (some d) st3 ⟨gC, .inr ⟨d, (ns.zip vs).reverse, rfl, ss _ _ upd_same, ?_, ?_⟩⟩
    · rw [List.map_reverse, List.map_reverse, List.map_fst_zip (by rw [rs.len, hl]; exact Nat.le_refl _), List.map_fst_zip (by rw [hl]; exact Nat.le_refl _)]
    · rw [List.map_reverse, List.map_reverse, List.map_snd_zip (by rw [rs.len, hl]; exact Nat.le_refl _), List.map_snd_zip (by rw [hl]; exact Nat.le_refl _)]
      exact (rs.mono (s2.ss.trans ss)).rev
  · exact q1.elim
end
end Da
namespace Da
open PySem PySem.Spec L2
/-- of the classes in l it is known whether a clause, an isinstance takes them -/
def askOf (l : List (Str × Bool)) (c : Str) : Option Bool := l.lookup c
/-- an error class whose errors may be asked -/
def ErrC (K : PySem.W.Frag) (mg : Str → Option Value) (c : Str) : Prop := ∃ C, mg c = some (.ref C) ∧ ExcC K C
theorem errF {K : PySem.W.Frag} {C : Addr} {f : Str} {fs : List Str} (h : PySem.W.findIn K (.ref C) f = some none) (t : ∀ g ∈ fs, PySem.W.findIn K (.ref C) g = some none) : ∀ g ∈ f :: fs, PySem.W.findIn K (.ref C) g = some none := fun g hg => by
  rcases List.mem_cons.mp hg with rfl | z
  · exact h
  · exact t g z
def ErrsC (K : PySem.W.Frag) (mg : Str → Option Value) (cs : List Str) : Prop := ∀ c ∈ cs, ErrC K mg c
section
variable {X : Cx} {E : WX} {m : Mds} {l : List (Str × Bool)} {a : Addr} {oe : Obj} {cls : Value} {d : Option Addr} {pn : List (Addr × Obj)} {n y : Str} {p p1 p2 pos : Pos} {cs : List Str}
theorem ErrsC.of (h : ErrsC X.K X.mg cs) (e : l.all (fun q => cs.contains q.1) = true) : ∀ q ∈ l, ErrC X.K X.mg q.1 := fun q hq => h _ (by
  have := List.all_eq_true.mp e q hq
  simpa using this)
end
end Da
namespace Da
open PySem PySem.Spec L2
end Da
namespace Da
open PySem PySem.Spec L2
end Da
namespace Da
open PySem PySem.Spec L2
end Da
namespace Da
open PySem PySem.Spec L2
/-- the mode of an own tree, n deep; .. that is lent and stands at q -/
def mdT : Nat → Md
  | 0 => .sh
  | 1 => .ow
  | n + 2 => .tr (n + 2) none none
def mdL : Nat → Addr → Md
  | 0, _ => .sh
  | 1, q => .owq q
  | n + 2, q => .tr (n + 2) none (some q)
def IsTr (n : Nat) (md : Md) : Prop := md = mdT n ∨ ∃ q, md = mdL n q
section
variable {K : PySem.W.Frag} {mg : Str → Option Value} {m : Mds} {S0 H0 S S' H H' : Hp} {σ : L2.St} {ρ : Env} {F : Nat → List Addr} {fp : List Addr} {v : V} {d : D}
theorem flat_nil : ∀ {fps : List (List Addr)}, (∀ (j : Nat) (f : List Addr), fps[j]? = some f → f = []) → fps.flatten = []
  | [], _ => rfl
  | f :: fps, h => by
    have h0 : f = [] := h 0 f rfl
    have h1 := flat_nil (fps := fps) fun j g e => h (j + 1) g (by simpa using e)
    rw [List.flatten_cons, h0, h1]
    rfl
theorem own1 : OwnTr K mg S H 1 fp v d ↔ ∃ p vs ds, v = .ref p ∧ d = .lst ds ∧ fp = [p] ∧ S p = none ∧ H p = some (.lst vs) ∧ RepL K mg S vs ds := by
  constructor
  · rintro ⟨p, vs, ds, fps, e1, e2, e3, e4, e5, e6, e7, e8⟩
    refine ⟨p, vs, ds, e1, e2, ?_, e4, e5, ⟨e6, fun i w e a b => ?_⟩⟩
    · rw [e3, flat_nil fun j f ej => ?_]
      have hl := (List.getElem?_eq_some_iff.mp ej).1
      exact (e8 j _ _ f (List.getElem?_eq_getElem (by omega)) (List.getElem?_eq_getElem (by omega)) ej).2
    · have hl := (List.getElem?_eq_some_iff.mp b).1
      exact (e8 i w e _ a b (List.getElem?_eq_getElem (l := fps) (by omega))).1
  · rintro ⟨p, vs, ds, e1, e2, e3, e4, e5, e6⟩
    refine ⟨p, vs, ds, List.replicate ds.length [], e1, e2, ?_, e4, e5, e6.len, by simp, fun j w e f a b c => ?_⟩
    · rw [e3, flat_nil]
      intro j f ej
      rw [List.getElem?_replicate] at ej
      split at ej
      · cases ej; rfl
      · cases ej
    · rw [List.getElem?_replicate] at c
      split at c
      · cases c; exact ⟨e6.at_ j w e a b, rfl⟩
      · cases c
theorem mdT_own : ∀ {n : Nat}, OwnAt K mg S H fp v d (mdT n) ↔ OwnTr K mg S H n fp v d
  | 0 => Iff.rfl
  | 1 => own1.symm
  | n + 2 => ⟨fun h => h.2, fun h => ⟨(fun q z => nomatch z), h⟩⟩
theorem mdL_own : ∀ {n : Nat} {q : Addr}, OwnAt K mg S H fp v d (mdL (n + 1) q) ↔ v = .ref q ∧ OwnTr K mg S H (n + 1) fp v d
  | 0, q => ⟨fun h => ⟨h.1, own1.mpr h.2⟩, fun h => ⟨h.1, own1.mp h.2⟩⟩
  | n + 1, q => ⟨fun h => ⟨h.1 q rfl, h.2⟩, fun h => ⟨fun q' z => by cases z; exact h.1, h.2⟩⟩
theorem IsTr.own {n : Nat} {md : Md} (hmd : IsTr (n + 1) md) (h : OwnAt K mg S H fp v d md) : OwnTr K mg S H (n + 1) fp v d := by
  rcases hmd with hmd | ⟨q, hmd⟩
  · rw [hmd] at h; exact mdT_own.mp h
  · rw [hmd] at h; exact (mdL_own.mp h).2
/-- the same thing, changed -/
theorem IsTr.back {n : Nat} {md : Md} {fp' : List Addr} {d' : D} (hmd : IsTr (n + 1) md) (h : OwnAt K mg S H fp v d md) (k : OwnTr K mg S' H' (n + 1) fp' v d') : OwnAt K mg S' H' fp' v d' md := by
  rcases hmd with hmd | ⟨q, hmd⟩
  · rw [hmd]; exact mdT_own.mpr k
  · rw [hmd] at h ⊢; exact mdL_own.mpr ⟨(mdL_own.mp h).1, k⟩
theorem OwnTr.agree : ∀ {n : Nat} {fp : List Addr} {v : V} {d : D}, (∀ a, a ∈ fp → H' a = H a) → OwnTr K mg S H n fp v d → OwnTr K mg S H' n fp v d
  | 0, _, _, _, _, h => h
  | n + 1, _, _, _, hf, h => by
    obtain ⟨q, vs, ds, fps, e1, e2, e3, e4, e5, e6, e7, e8⟩ := h
    exact ⟨q, vs, ds, fps, e1, e2, e3, e4, by rw [hf q (by rw [e3]; exact List.mem_cons_self)]; exact e5, e6, e7, fun j w e f x y z => (e8 j w e f x y z).agree fun a ha => hf a (by rw [e3]; exact List.mem_cons_of_mem _ (flat_mem z ha))⟩
theorem OwnAt.agree {md : Md} (hf : ∀ a, a ∈ fp → H' a = H a) (h : OwnAt K mg S H fp v d md) : OwnAt K mg S H' fp v d md := by
  cases md with
  | owq q0 =>
    obtain ⟨e0, p, vs, ds, e1, e2, e3, e4, e5, e6⟩ := h
    exact ⟨e0, p, vs, ds, e1, e2, e3, e4, by rw [hf p (by rw [e3]; exact List.mem_cons_self)]; exact e5, e6⟩
  | tr n b at_ =>
    cases b with
    | none => exact ⟨h.1, h.2.agree hf⟩
    | some kq =>
      obtain ⟨h0, p, vs, ds, fps, e1, e2, e3, e4, e5, e6, e7, h1, h2, h3, e8⟩ := h
      exact ⟨h0, p, vs, ds, fps, e1, e2, e3, e4, by rw [hf p (by rw [e3]; exact List.mem_cons_self)]; exact e5, e6, e7, h1, h2, h3, fun j w e f i x y z => (e8 j w e f i x y z).agree fun a ha => hf a (by rw [e3]; exact List.mem_cons_of_mem _ (flat_mem z ha))⟩
  | ex a0 b0 c0 => exact h
  | sh => exact h
  | ow =>
    obtain ⟨p, vs, ds, e1, e2, e3, e4, e5, e6⟩ := h
    exact ⟨p, vs, ds, e1, e2, e3, e4, by rw [hf p (by rw [e3]; exact List.mem_cons_self)]; exact e5, e6⟩
  | ow2 =>
    obtain ⟨q, ps, dss, e1, e2, e3, e4, e5, e6, e7⟩ := h
    refine ⟨q, ps, dss, e1, e2, e3, e4, by rw [hf q (by rw [e3]; exact List.mem_cons_self)]; exact e5, e6, fun j r ds x y => ?_⟩
    obtain ⟨z1, vs, z2, z3⟩ := e7 j r ds x y
    exact ⟨z1, vs, by rw [hf r (by rw [e3]; exact List.mem_cons_of_mem _ (List.mem_of_getElem? x))]; exact z2, z3⟩
  | dk =>
    obtain ⟨p, vs, ds, e1, e2, e3, e4, e5, e6⟩ := h
    exact ⟨p, vs, ds, e1, e2, e3, e4, by rw [hf p (by rw [e3]; exact List.mem_cons_self)]; exact e5, e6⟩
  | dt =>
    obtain ⟨p, vs, ds, e1, e2, e3, e4, e5, e6⟩ := h
    exact ⟨p, vs, ds, e1, e2, e3, e4, by rw [hf p (by rw [e3]; exact List.mem_cons_self)]; exact e5, e6⟩
  | ob q =>
    obtain ⟨dx, C, c, fs, ds, e1, e2, e3, e4, e5, e6, e7, e8, e9⟩ := h
    exact ⟨dx, C, c, fs, ds, e1, e2, e3, e4, e5, e6, by rw [hf q (by rw [e3]; exact List.mem_cons_self)]; exact e7, by rw [hf dx (by rw [e3]; exact List.mem_cons_of_mem _ List.mem_cons_self)]; exact e8, e9⟩
/-- slot i's thing is changed in its own place, with what is new -/
theorem StF.put {i : Nat} {d0 d1 : D} {fp' : List Addr} (st : StF K mg m S0 H0 S F σ ρ H) (hρ : ρ[i]? = some (some d0)) (hσ : σ[i]? = some (some v)) (hch : ∀ a, a ∉ F i → H' a = H a)
    (o : OwnAt K mg S H' fp' v d1 (mdAt m i)) (hn : fp'.Nodup) (hf : ∀ a, a ∈ fp' → a ∈ F i ∨ (H0 a = none ∧ ∀ j d, j ≠ i → ρ[j]? = some (some d) → a ∉ F j)) :
    StF K mg m S0 H0 S (F_set F i fp') σ (ρ.set i (some d1)) H' := by
  obtain ⟨s, en, nw⟩ := st
  have hil : i < ρ.length := (List.getElem?_eq_some_iff.mp hρ).1
  have key : ∀ j d', (ρ.set i (some d1))[j]? = some (some d') → (j = i ∧ d' = d1) ∨ (j ≠ i ∧ ρ[j]? = some (some d')) := fun j d' ej => by
    by_cases hj : j = i
    · subst hj
      rw [List.getElem?_set_self hil] at ej
      injection ej with z; injection z with z
      exact .inl ⟨rfl, z.symm⟩
    · rw [List.getElem?_set_ne (Ne.symm hj)] at ej
      exact .inr ⟨hj, ej⟩
  obtain ⟨v0, ev0, o0⟩ := en.at_ i d0 hρ
  have apart : ∀ j d', j ≠ i → ρ[j]? = some (some d') → ∀ a, a ∈ fp' → a ∉ F j := fun j d' hj ej a ha => by
    rcases hf a ha with z | z
    · exact en.apart i j _ d' (Ne.symm hj) hρ ej a z
    · exact z.2 j d' hj ej
  refine ⟨⟨fun a u ea => ?_, s.ss, fun a u ea => ?_, s.new⟩, ⟨by rw [List.length_set]; exact en.len, fun j d' ej => ?_, fun j d' ej => ?_, fun j k a b hjk e1 e2 => ?_⟩, fun j d' ej => ?_⟩
  · rw [hch a (fun z => by rw [nw i _ hρ a z] at ea; cases ea)]
    exact s.hh a u ea
  · rw [hch a (fun z => by rw [(o0.out z).1] at ea; cases ea)]
    exact s.sub a u ea
  · rcases key j d' ej with ⟨rfl, rfl⟩ | ⟨hj, ej'⟩
    · exact ⟨v, hσ, by rw [F_at]; exact o⟩
    · obtain ⟨w, e1, o1⟩ := en.at_ j d' ej'
      rw [F_off hj]
      exact ⟨w, e1, o1.agree fun a ha => hch a (en.apart j i d' _ hj ej' hρ a ha)⟩
  · rcases key j d' ej with ⟨rfl, rfl⟩ | ⟨hj, ej'⟩
    · rw [F_at]; exact hn
    · rw [F_off hj]; exact en.nd j d' ej'
  · rcases key j a e1 with ⟨rfl, rfl⟩ | ⟨hj, e1'⟩
    · rcases key k b e2 with ⟨z, _⟩ | ⟨hk, e2'⟩
      · exact absurd z.symm hjk
      · rw [F_at, F_off hk]; exact apart k b hk e2'
    · rcases key k b e2 with ⟨rfl, rfl⟩ | ⟨hk, e2'⟩
      · rw [F_at, F_off hj]; exact fun x hx z => apart j a hj e1' x z hx
      · rw [F_off hj, F_off hk]; exact en.apart j k a b hjk e1' e2'
  · rcases key j d' ej with ⟨rfl, rfl⟩ | ⟨hj, ej'⟩
    · rw [F_at]; intro a ha
      rcases hf a ha with z | z
      · exact nw _ _ hρ a z
      · exact z.1
    · rw [F_off hj]; exact nw j d' ej'
/-- what is known of an own tree -/
theorem StF.ownT {i n : Nat} (st : StF K mg m S0 H0 S F σ ρ H) (hmd : IsTr (n + 1) (mdAt m i)) (hρ : ρ[i]? = some (some d)) :
    ∃ v, σ[i]? = some (some v) ∧ OwnAt K mg S H (F i) v d (mdAt m i) ∧ OwnTr K mg S H (n + 1) (F i) v d ∧ (F i).Nodup := by
  obtain ⟨v, e1, o⟩ := st.2.1.at_ i d hρ
  exact ⟨v, e1, o, hmd.own o, st.2.1.nd i d hρ⟩
theorem set_flat {fps : List (List Addr)} {k : Nat} {f g : List Addr} (hk : fps[k]? = some f) (a : Addr) : a ∈ (fps.set k g).flatten ↔ a ∈ g ∨ ∃ j h, j ≠ k ∧ fps[j]? = some h ∧ a ∈ h := by
  have hkl := (List.getElem?_eq_some_iff.mp hk).1
  constructor
  · intro h
    obtain ⟨j, f', hj, ha⟩ := mem_flat h
    by_cases hjk : j = k
    · subst hjk
      rw [List.getElem?_set_self hkl] at hj
      cases hj
      exact .inl ha
    · rw [List.getElem?_set_ne (Ne.symm hjk)] at hj
      exact .inr ⟨j, f', hjk, hj, ha⟩
  · rintro (h | ⟨j, f', hjk, hj, ha⟩)
    · exact flat_mem (j := k) (List.getElem?_set_self hkl) h
    · exact flat_mem (j := j) (by rw [List.getElem?_set_ne (Ne.symm hjk)]; exact hj) ha
theorem nd_split : ∀ {fps : List (List Addr)} {k : Nat} {f : List Addr}, fps[k]? = some f → (fps.flatten.Nodup ↔ f.Nodup ∧ (fps.set k []).flatten.Nodup ∧ ∀ a, a ∈ f → a ∉ (fps.set k []).flatten)
  | [], k, f, h => by simp at h
  | g :: fps, 0, f, h => by
    cases h
    simp only [List.set_cons_zero, List.flatten_cons, List.nil_append]
    rw [List.nodup_append]
    exact ⟨fun ⟨a, b, c⟩ => ⟨a, b, fun x hx hy => c x hx x hy rfl⟩, fun ⟨a, b, c⟩ => ⟨a, b, fun x hx y hy z => c x hx (by rw [z]; exact hy)⟩⟩
  | g :: fps, k + 1, f, h => by
    have h' : fps[k]? = some f := by simpa using h
    have ih := nd_split h'
    simp only [List.set_cons_succ, List.flatten_cons]
    rw [List.nodup_append, List.nodup_append, ih]
    have hkl := (List.getElem?_eq_some_iff.mp h').1
    have mem : ∀ a, a ∈ fps.flatten ↔ a ∈ f ∨ a ∈ (fps.set k []).flatten := fun a => by
      have e : fps.set k f = fps := by
        refine List.ext_getElem? fun j => ?_
        rw [List.getElem?_set]
        split
        · rename_i hj; subst hj; first | (rw [if_pos hkl, h']) | exact h'.symm
        · rfl
      have := set_flat (g := f) h' a
      rw [e] at this
      have t2 := set_flat (g := []) h' a
      rw [this, t2]
      simp
    constructor
    · rintro ⟨a, ⟨b, c, dd⟩, e⟩
      refine ⟨b, ⟨a, c, fun x hx y hy => e x hx y ((mem y).mpr (.inr hy))⟩, fun x hx hy => ?_⟩
      rcases List.mem_append.mp hy with z | z
      · exact e x z x ((mem x).mpr (.inl hx)) rfl
      · exact dd x hx z
    · rintro ⟨b, ⟨a, c, e⟩, dd⟩
      refine ⟨a, ⟨b, c, fun x hx hy => dd x hx (List.mem_append_right _ hy)⟩, fun x hx y hy z => ?_⟩
      rcases (mem y).mp hy with w | w
      · exact dd y w (List.mem_append_left _ (by rw [← z]; exact hx))
      · exact e x hx y w z
/-- an inner thing is replaced by one of one's own -/
theorem OwnTr.setT {n k : Nat} {p : Addr} {vs : List V} {ds : List D} {fps : List (List Addr)} {w : V} {e : D} {f g : List Addr}
    (sp : S p = none) (h6 : vs.length = ds.length) (h7 : fps.length = ds.length) (h8 : ∀ (j : Nat) (w : V) (e : D) (f : List Addr), j ≠ k → vs[j]? = some w → ds[j]? = some e → fps[j]? = some f → OwnTr K mg S H n f w e)
    (hp : H p = some (.lst (vs.set k w))) (o : OwnTr K mg S H n g w e) (hk : k < ds.length) : OwnTr K mg S H (n + 1) (p :: (fps.set k g).flatten) (.ref p) (.lst (ds.set k e)) := by
  refine ⟨p, vs.set k w, ds.set k e, fps.set k g, rfl, rfl, rfl, sp, hp, by simp [h6], by simp [h7], fun j w' e' f' a b c => ?_⟩
  by_cases hj : j = k
  · subst hj
    rw [List.getElem?_set_self (by omega)] at a b c
    cases a; cases b; cases c
    exact o
  · rw [List.getElem?_set_ne (Ne.symm hj)] at a b c
    exact h8 j w' e' f' hj a b c
end
section
variable {K : PySem.W.Frag} {mg : Str → Option Value} {E : WX} {m : Mds} {it : Env → Res (List D)} {g : D → Env → Res Env} {c : Env → Res Bool} {f : Env → Res D} {ts vs : List Nat}
/-- the list of new trees under way -/
def LcT (K : PySem.W.Frag) (mg : Str → Option Value) (n : Nat) (g : D → Env → Res Env) (c : Env → Res Bool) (f : Env → Res D) (ρ : Env) (xs ys : List D) (D0 : Addr) (S1 H1 : Hp) (i : Nat) (H : Hp) : Prop :=
  ∃ (S2 : Hp) (ws : List V) (ds : List D) (fps : List (List Addr)) (rest : List D), Step S1 H1 S2 H ∧ S2 D0 = none ∧ H D0 = some (.lst ws) ∧ ws.length = ds.length ∧ fps.length = ds.length ∧
    (∀ (j : Nat) (w : V) (e : D) (f : List Addr), ws[j]? = some w → ds[j]? = some e → fps[j]? = some f → OwnTr K mg S2 H n f w e) ∧
    (D0 :: fps.flatten).Nodup ∧ (∀ q, q ∈ fps.flatten → H1 q = none) ∧ lcGo g c f ρ (xs.drop i) = .ok rest ∧ ys = ds ++ rest ∧ ds.length ≤ i
theorem flat_snoc {fps : List (List Addr)} {g : List Addr} : (fps ++ [g]).flatten = fps.flatten ++ g := by simp
theorem lcT_ok {n : Nat} {σ : L2.St} {H : Hp} {Q : VK} (hts : ∀ t ∈ ts, t ∈ vs) (h : tE K mg E m (mdT (n + 1)) (fLc vs it g c f) σ H Q) :
    tLc (tI K mg E m it) (tGD K mg m ts g) (tT K mg EF m c) (tE K mg EF m (mdT n) f) vs σ H Q := by
  obtain ⟨S, ρ, hm, hp⟩ := h
  refine ⟨S, ρ, hm, (Post.bind hp).imp fun xs S1 H1 s1 k J w D0 hD => ?_⟩
  split at k
  rotate_left
  · exact k.elim
  rename_i hz
  have hz := szOk_ok hz
  cases eg : lcGo g c f (wipeD ρ vs) xs with
  | ex c' fs => rw [eg] at k; exact k.elim
  | er => rw [eg] at k; exact k.elim
  | ok ys =>
    rw [eg] at k
    have k : Post K mg (WE E σ) S1 H1 (mdT (n + 1)) (.ok (.lst ys)) Q := k
    refine ⟨fun i u H => u = xs.length - i ∧ i ≤ xs.length ∧ LcT K mg n g c f (wipeD ρ vs) xs ys D0 S1 H1 i H, ⟨xs.length, by simp, Nat.zero_le _, S1, [], [], [], ys, Step.hid s1.sub hD, s1.sub.free hD, upd_same, rfl, rfl, (fun j w e f a _ _ => by simp at a), (by simp), (fun q hq => by simp at hq), eg, rfl, Nat.le_refl _⟩, ?_⟩
    rintro i u H2 ⟨rfl, hi, S2, ws, ds, fps, rest, st2, hs2, hd2, hl, hfl, hin, hnd, hnew, el, ey, hn⟩
    by_cases hlt : i < xs.length
    · obtain ⟨hgo, hyl⟩ := w.go i xs[i] S2 H2 (List.getElem?_eq_getElem hlt) st2.ss st2.sub
      refine .inr ⟨hgo, LcT K mg n g c f (wipeD ρ vs) xs ys D0 S1 H1 (i + 1), fun H' z => ⟨xs.length - (i + 1), by omega, rfl, hlt, z⟩, fun x H3 y => ?_⟩
      obtain ⟨S3, s3, r3⟩ := hyl x H3 y
      rw [List.drop_eq_getElem_cons hlt] at el
      unfold lcGo at el
      cases eg1 : g xs[i] (wipeD ρ vs) with
      | ex c' fs => rw [eg1] at el; cases el
      | er => rw [eg1] at el; cases el
      | ok ρ1 =>
        rw [eg1] at el
        simp only at el
        have st3 := st2.trans s3
        obtain ⟨F, stF⟩ := (((hm.step s1).step st3).wipe vs).bare
        refine ⟨_, _, S3, F, wipeD ρ vs, xs[i], stF, r3, ?_⟩
        rw [eg1]
        intro σ4 S4 F4 H4 st4 s4 hfr
        refine ⟨wipe_eq (by rw [hfr.1, L2.wipe_length]) hfr.2 hts, S4, ρ1, st4.envM, ?_⟩
        cases ec : c ρ1 with
        | ex c' fs => rw [ec] at el; cases el
        | er => rw [ec] at el; cases el
        | ok b =>
          rw [ec] at el
          simp only at el
          intro S5 H5 s5
          have a5 := (s3.trans s4).trans s5
          cases b with
          | false =>
            rw [if_neg (by decide)] at el
            show LcT K mg n g c f (wipeD ρ vs) xs ys D0 S1 H1 (i + 1) H5
            exact ⟨S5, ws, ds, fps, rest, st2.trans a5, a5.out hs2 hd2, a5.hh _ _ hd2, hl, hfl, fun j w e f x y z => (hin j w e f x y z).step a5, hnd, hnew, el, ey, by omega⟩
          | true =>
            rw [if_pos rfl] at el
            show tE K mg EF m (mdT n) f σ4 H5 _
            refine ⟨S5, ρ1, (st4.envM).step s5, ?_⟩
            cases ef : f ρ1 with
            | ex c' fs => rw [ef] at el; cases el
            | er => rw [ef] at el; cases el
            | ok y' =>
              rw [ef] at el
              simp only at el
              intro v S6 H6 fp s6 o hfn hf
              have o := mdT_own.mp o
              have a6 := a5.trans s6
              cases er : lcGo g c f (wipeD ρ vs) (xs.drop (i + 1)) with
              | ex c' fs => rw [er] at el; cases el
              | er => rw [er] at el; cases el
              | ok rest' =>
                rw [er] at el
                cases el
                have old : ∀ a, a ∈ fps.flatten → ∃ o, H5 a = some o := fun a ha => by
                  obtain ⟨j, f', hj, hfj⟩ := mem_flat ha
                  have hjl := (List.getElem?_eq_some_iff.mp hj).1
                  obtain ⟨_, o', ho'⟩ := (hin j _ _ f' (List.getElem?_eq_getElem (by omega)) (List.getElem?_eq_getElem (by omega)) hj).out hfj
                  exact ⟨o', a5.hh _ _ ho'⟩
                have hDf : D0 ∉ fp := fun z => by
                  have := hf D0 z
                  rw [a5.hh _ _ hd2] at this
                  cases this
                have hDp : D0 ∉ fps.flatten := (List.nodup_cons.mp hnd).1
                refine ⟨ws, a6.hh _ _ hd2, by omega, S6, ws ++ [v], ds ++ [y'], fps ++ [fp], rest', (st2.trans a6).write (a6.out hs2 hd2) hD, a6.out hs2 hd2, ?_, by simp [hl], by simp [hfl], fun j w e f' x y z => ?_, ?_, fun q hq => ?_, er, by rw [ey]; simp, by simp; omega⟩
                · rw [upd_same]
                · by_cases hj : j < ds.length
                  · rw [List.getElem?_append_left (by omega)] at x y z
                    exact ((hin j w e f' x y z).step a6).agree fun a ha => by
                      rw [upd_ne fun zz => hDp (by rw [← zz]; exact flat_mem z ha)]
                  · have hjl := (List.getElem?_eq_some_iff.mp y).1
                    rw [List.length_append] at hjl
                    have : j = ds.length := by simp at hjl; omega
                    subst this
                    rw [List.getElem?_concat_length] at y
                    rw [← hl, List.getElem?_concat_length] at x
                    rw [← hfl, List.getElem?_concat_length] at z
                    cases x; cases y; cases z
                    exact o.agree fun a ha => by rw [upd_ne fun zz => hDf (by rw [← zz]; exact ha)]
                · rw [flat_snoc, List.nodup_cons]
                  rw [List.nodup_cons] at hnd
                  refine ⟨fun z => ?_, ?_⟩
                  · rcases List.mem_append.mp z with z | z
                    · exact hDp z
                    · exact hDf z
                  · rw [List.nodup_append]
                    refine ⟨hnd.2, hfn, fun a ha b hb z => ?_⟩
                    obtain ⟨o', ho'⟩ := old a ha
                    rw [z, hf b hb] at ho'
                    cases ho'
                · rw [flat_snoc] at hq
                  rcases List.mem_append.mp hq with z | z
                  · exact hnew q z
                  · exact (st2.trans a5).hh.free (hf q z)
    · have e : i = xs.length := by omega
      subst e
      rw [List.drop_length] at el
      cases el
      rw [List.append_nil] at ey
      subst ey
      refine .inl ⟨w.stop S2 H2 st2.ss st2.sub, k _ S2 H2 (D0 :: fps.flatten) st2 (mdT_own.mpr ⟨D0, ws, ys, fps, rfl, rfl, rfl, hs2, hd2, hl, hfl, hin⟩) hnd (fun a z => ?_)⟩
      rcases List.mem_cons.mp z with z | z
      · rw [z]; exact hD
      · exact hnew a z
end
end Da
namespace Da
open PySem PySem.Spec L2
section
variable {X : Cx} {E : WX} {L : Lp} {m : Mds} {ts : List Nat} {N0 ps0 : List Str} {sc0 : Scope} {elt tg iter e j e2 j2 : Expr} {ifs : List Expr} {scope : Scope} {pos p1 p2 p3 p4 : Pos} {it : Env → Res (List D)} {g : D → Env → Res Env} {c : Env → Res Bool} {f fj fj2 : Env → Res D} {x : Str}
theorem js_setLcT (n : Nat) (i : Nat) {md1 md2 : Md} {y : Str} {py spos : Pos} (Sc : FnScope N0 ps0 sc0) (own : List (Str × Nat)) (hi : JI X E m tg iter it)
    (hg : ∀ (s : Shared) (H : Hp) (C : Addr) (cl : List (Str × Addr)) (fp : List Addr), JG (X.blk s H scope (compEnvC scope cl C X.env) fp) m ts tg g) (ht : ∀ (s : Shared) (H : Hp) (C : Addr) (cl : List (Str × Addr)) (fp : List Addr), JTs (X.blk s H scope (compEnvC scope cl C X.env) fp) EF m ifs c) (he : ∀ (s : Shared) (H : Hp) (C : Addr) (cl : List (Str × Addr)) (fp : List Addr), JE (X.blk s H scope (compEnvC scope cl C X.env) fp) EF m md1 elt f) (h1 : md1 = mdT n := by rfl) (h2 : md2 = mdT (n + 1) := by rfl) (hl : i < m.length := by first | decide | simp) (hy : X.N[i]? = some y := by rfl) (hyl : X.env.scope.names.lookup y = some .local := by rfl)
    (hsw : swapsWith (.ListComp elt [⟨tg, iter, ifs, 0⟩] scope pos) (some (.Name y py)) spos.line X.env = pure true := by rfl) (hc : X.calm = true := by rfl) (hN0 : X.N = N0 := by rfl) (hsc : X.env.scope = sc0 := by rfl) (ok : blkC N0 sc0 scope own = true := by decide +kernel) (hts : ∀ t ∈ ts, t ∈ own.map (·.2) := by decide)
    (hs : ∀ x, foldedSetIterable iter X.env x = pure x := by intro _; rfl) : JS X E L m (m.set i md2) (.Assign [.Name y py] (.ListComp elt [⟨tg, iter, ifs, 0⟩] scope pos) spos) (fSet i (fLc (own.map (·.2)) it g c f)) := by
  subst h1 h2
  refine ⟨PSimp (ps_setLc (g := tGD X.K X.mg m ts g) (tt := tT X.K X.mg EF m c) (te := tE X.K X.mg EF m (mdT n) f) hc (by rw [hN0]; exact Sc.nd) hy hyl hsw hi.pi (blkOk_by (by rw [hN0, hsc]; exact ok)) (fun s H C cl fp => (hg s H C cl fp).pg) (fun s H C cl fp => (ht s H C cl fp).pt) (fun s H C cl fp => (he s H C cl fp).pe) hs) fun D σ H h => ?_⟩
  obtain ⟨S0, H0, ρ, ⟨S, Fp, st⟩, p⟩ := h
  refine lcT_ok hts ⟨S, ρ, st.envM, (lift_post st p).postM fun d v S1 H1 fp s1 o hn hf k => ?_⟩
  refine k _ _ (StF.stM ((st.step s1).set hl o hn (fun a ha => st.1.hh.free (hf a ha)) fun j e' hj ej a ha z => ?_))
  obtain ⟨w, _, o'⟩ := st.2.1.at_ j e' ej
  obtain ⟨_, u, hu⟩ := o'.out ha
  rw [hf a z] at hu
  cases hu
/-- new addresses that a tree takes in -/
theorem new_apart {K : PySem.W.Frag} {mg : Str → Option Value} {m : Mds} {S0 H0 S H : Hp} {σ : L2.St} {ρ : Env} {F : Nat → List Addr} {fp : List Addr} (st : StF K mg m S0 H0 S F σ ρ H) (hf : ∀ a, a ∈ fp → H a = none) {a : Addr} (ha : a ∈ fp) : H0 a = none ∧ ∀ j d, ρ[j]? = some (some d) → a ∉ F j :=
  ⟨st.1.hh.free (hf a ha), fun j d ej z => by
    obtain ⟨w, _, o⟩ := st.2.1.at_ j d ej
    obtain ⟨_, u, hu⟩ := o.out z
    rw [hf a ha] at hu
    cases hu⟩
theorem OwnTr.setI {K : PySem.W.Frag} {mg : Str → Option Value} {S H : Hp} {n k : Nat} {f fp : List Addr} {v w : V} {us : List D} {d : D} (h : OwnTr K mg S H (n + 1) f v (.lst us)) (nd : f.Nodup) (on : OwnTr K mg S H n fp w d) (hn : fp.Nodup) (hx : ∀ a, a ∈ fp → a ∉ f) (hk : k < us.length) :
    ∃ (q : Addr) (ws : List V), v = .ref q ∧ H q = some (.lst ws) ∧ ws.length = us.length ∧ q ∈ f ∧ ∃ f', OwnTr K mg S (upd H q (.lst (ws.set k w))) (n + 1) f' v (.lst (us.set k d)) ∧ f'.Nodup ∧ ∀ a, a ∈ f' → a ∈ f ∨ a ∈ fp := by
  obtain ⟨q, ws, ds, fps, eq, eds, ef, sq, hq, hl, hfl, hin⟩ := h
  cases eq; cases eds
  have hqf : q ∈ f := by rw [ef]; exact List.mem_cons_self
  have hqn : q ∉ fp := fun z => hx q z hqf
  have nd2 := nd
  rw [ef, List.nodup_cons] at nd2
  have q0 : ∀ a, a ∈ fps.flatten → a ≠ q := fun a ha z => nd2.1 (by rw [← z]; exact ha)
  have fk : fps[k]? = some (fps[k]'(by omega)) := List.getElem?_eq_getElem (by omega)
  have nd3 := nd2.2
  rw [nd_split fk] at nd3
  have up : ∀ a, a ∈ (fps.set k fp).flatten → a ∈ fp ∨ a ∈ (fps.set k []).flatten := fun a ha => by
    rcases (set_flat fk a).mp ha with z | z
    · exact .inl z
    · exact .inr ((set_flat fk a).mpr (.inr z))
  have dn : ∀ a, a ∈ (fps.set k []).flatten → a ∈ fps.flatten := fun a ha => by
    rcases (set_flat fk a).mp ha with z | ⟨j, h, _, z1, z2⟩
    · cases z
    · exact flat_mem z1 z2
  refine ⟨q, ws, rfl, hq, hl, hqf, q :: (fps.set k fp).flatten, OwnTr.setT (f := []) sq hl hfl (fun j w e f hj a b c => (hin j w e f a b c).agree fun z hz => upd_ne (q0 z (flat_mem c hz))) upd_same (on.agree fun z hz => upd_ne fun zz => hqn (by rw [← zz]; exact hz)) hk, ?_, fun a ha => ?_⟩
  · rw [List.nodup_cons]
    refine ⟨fun z => ?_, ?_⟩
    · rcases up q z with z | z
      · exact hqn z
      · exact q0 q (dn q z) rfl
    · have fk2 : (fps.set k fp)[k]? = some fp := List.getElem?_set_self (by omega)
      rw [nd_split fk2, List.set_set]
      exact ⟨hn, nd3.2.1, fun a ha hb => hx a ha (by rw [ef]; exact List.mem_cons_of_mem _ (dn a hb))⟩
  · rcases List.mem_cons.mp ha with rfl | ha
    · exact .inl hqf
    · rcases up a ha with z | z
      · exact .inr z
      · exact .inl (by rw [ef]; exact List.mem_cons_of_mem _ (dn a z))
/-- a list within the tree of slot i is changed in its place -/
theorem inner_change {K : PySem.W.Frag} {mg : Str → Option Value} {m : Mds} {S0 H0 S H H' : Hp} {σ : L2.St} {ρ : Env} {F : Nat → List Addr} {n i k : Nat} {p : Addr} {vs : List V} {xs : List D} {fps : List (List Addr)} {w : V} {d' : D} {f f' fp : List Addr}
    (st : StF K mg m S0 H0 S F σ ρ H) (hmd : IsTr (n + 1) (mdAt m i)) (exs : ρ[i]? = some (some (.lst xs))) (e1 : σ[i]? = some (some (.ref p))) (oa : OwnAt K mg S H (F i) (.ref p) (.lst xs) (mdAt m i)) (ef : F i = p :: fps.flatten) (sp : S p = none) (hp : H p = some (.lst vs)) (hl : vs.length = xs.length) (hfl : fps.length = xs.length)
    (hin : ∀ (j : Nat) (w : V) (e : D) (f : List Addr), vs[j]? = some w → xs[j]? = some e → fps[j]? = some f → OwnTr K mg S H n f w e) (hw : vs[k]? = some w) (hf : fps[k]? = some f) (hch : ∀ a, a ∉ f → H' a = H a)
    (on : OwnTr K mg S H' n f' w d') (hn : f'.Nodup) (hf' : ∀ a, a ∈ f' → a ∈ f ∨ a ∈ fp) (hnew : ∀ a, a ∈ fp → H0 a = none ∧ ∀ j d, ρ[j]? = some (some d) → a ∉ F j) :
    StM K mg m S0 H0 σ (ρ.set i (some (.lst (xs.set k d')))) H' := by
  have nd := st.2.1.nd i _ exs
  have nd2 := nd
  rw [ef, List.nodup_cons, nd_split hf] at nd2
  have hk : k < xs.length := by have := (List.getElem?_eq_some_iff.mp hw).1; omega
  have ff : ∀ a, a ∈ f → a ∈ fps.flatten := fun a ha => flat_mem hf ha
  have hpf : p ∉ f := fun z => nd2.1 (ff p z)
  have up : ∀ a, a ∈ (fps.set k f').flatten → a ∈ f' ∨ a ∈ (fps.set k []).flatten := fun a ha => by
    rcases (set_flat hf a).mp ha with z | z
    · exact .inl z
    · exact .inr ((set_flat hf a).mpr (.inr z))
  have dn : ∀ a, a ∈ (fps.set k []).flatten → a ∈ fps.flatten := fun a ha => by
    rcases (set_flat hf a).mp ha with z | ⟨j, h, _, z1, z2⟩
    · cases z
    · exact flat_mem z1 z2
  have ap : ∀ a, a ∈ f' → a ∉ (fps.set k []).flatten := fun a ha hb => by
    rcases hf' a ha with z | z
    · exact nd2.2.2.2 a z hb
    · exact (hnew a z).2 i _ exs (by rw [ef]; exact List.mem_cons_of_mem _ (dn a hb))
  have evs : vs.set k w = vs := by
    refine List.ext_getElem? fun j => ?_
    rw [List.getElem?_set]
    split
    · rename_i hj; subst hj; rw [if_pos (by omega)]; exact hw.symm
    · rfl
  have ow : OwnAt K mg S H' (p :: (fps.set k f').flatten) (.ref p) (.lst (xs.set k d')) (mdAt m i) := by
    refine hmd.back oa (OwnTr.setT (f := []) (w := w) sp hl hfl (fun j w' e g hj a b c => (hin j w' e g a b c).agree fun z hz => hch z fun zz => ?_) (by rw [evs, hch p hpf]; exact hp) on hk)
    exact nd2.2.2.2 z zz ((set_flat hf z).mpr (.inr ⟨j, g, hj, c, hz⟩))
  refine StF.stM (st.put exs e1 (fun a ha => hch a fun z => ha (by rw [ef]; exact List.mem_cons_of_mem _ (ff a z))) ow ?_ fun a ha => ?_)
  · rw [List.nodup_cons]
    refine ⟨fun z => ?_, ?_⟩
    · rcases up p z with z | z
      · rcases hf' p z with w | w
        · exact hpf w
        · exact (hnew p w).2 i _ exs (by rw [ef]; exact List.mem_cons_self)
      · exact nd2.1 (dn p z)
    · have fk2 : (fps.set k f')[k]? = some f' := List.getElem?_set_self (by omega)
      rw [nd_split fk2, List.set_set]
      exact ⟨hn, nd2.2.2.1, ap⟩
  · rcases List.mem_cons.mp ha with rfl | ha
    · exact .inl (by rw [ef]; exact List.mem_cons_self)
    · rcases up a ha with z | z
      · rcases hf' a z with w | w
        · exact .inl (by rw [ef]; exact List.mem_cons_of_mem _ (ff a w))
        · exact .inr ⟨(hnew a w).1, fun j' d' _ ej => (hnew a w).2 j' d' ej⟩
      · exact .inl (by rw [ef]; exact List.mem_cons_of_mem _ (dn a z))
/-- x[i][j] = e -/
def fSet2 (i : Nat) (fe fj fj2 : Env → Res D) : FS := fun ρ => match ρ[i]? with
  | some (some (.lst xs)) => lift (fe ρ) ρ fun d => lift (fj ρ) ρ fun y => match y with
    | .int z => (match ixN xs.length z with
      | some k => (match xs[k]? with
        | some (.lst us) => lift (fj2 ρ) ρ fun y2 => match y2 with
          | .int z2 => (match ixN us.length z2 with
            | some k2 => .ok (.nx (ρ.set i (some (.lst (xs.set k (.lst (us.set k2 d)))))))
            | none => .er)
          | _ => .er
        | _ => .er)
      | none => .er)
    | _ => .er
  | _ => .er
theorem js_set2T (n i : Nat) {md1 : Md} (he : JE X E m md1 e f) (hj : JE X E m .sh j fj) (hj2 : JE X E m .sh j2 fj2) (h1 : md1 = mdT n := by rfl) (hmd : IsTr (n + 2) (mdAt m i) := by first | exact .inl rfl | exact .inr ⟨_, rfl⟩) (hN : X.N[i]? = some x := by rfl) (hv : Vis X.env.scope x := by first | exact Or.inl rfl | exact Or.inr (Or.inl rfl) | exact Or.inr (Or.inr rfl))
    (hd : (x == ("__debug__" : Str)) = false := by decide) (hcd : (x == ("__classdict__" : Str)) = false := by decide) (hsl : PlainIx j := by intro _ _; rfl)
    (hps : ∀ {to ti te : TE}, PE X (.Subscript (.Name x p1) j p4) to → PE X j2 ti → PE X e te → PS X (.Assign [.Subscript (.Subscript (.Name x p1) j p4) j2 p2] e pos) (tAsg te (gSub to ti rSetL)) := by
      intro to ti te ho hi he
      exact ps_asg he (pg_sub ho hi set_list)) :
    JS X E L m m (.Assign [.Subscript (.Subscript (.Name x p1) j p4) j2 p2] e pos) (fSet2 i f fj fj2) := by
  subst h1
  refine ⟨PSimp (hps (pe_ix ix_seq (pe_var hN hv hd hcd) hj.pe hsl) hj2.pe he.pe) fun Dn σ H h => ?_⟩
  obtain ⟨S0, H0, ρ, ⟨S, Fp, st⟩, p⟩ := h
  unfold fSet2 at p
  split at p
  · rename_i xs exs
    refine ⟨S, ρ, st.envM, (lift_post st p).postM fun d v S1 H1 fp s1 o hn hf k => ?_⟩
    have st1 := st.step s1
    obtain ⟨v0, e0, _, ot, _⟩ := st1.ownT hmd exs
    obtain ⟨pa, vs, ds, fps, rfl, eds, _⟩ := id ot
    refine ⟨_, e0, S1, ρ, st1.envM, (lift_post st1 k).post fun dy vy S2 H2 s2 ry k1 => ?_⟩
    cases dy with
    | int z =>
      cases ry
      have k1 : SPost X.K X.mg E L S0 H0 m (match ixN xs.length z with
        | some k => (match xs[k]? with
          | some (.lst us) => lift (fj2 ρ) ρ fun y2 => match y2 with
            | .int z2 => (match ixN us.length z2 with
              | some k2 => .ok (.nx (ρ.set i (some (.lst (xs.set k (.lst (us.set k2 d)))))))
              | none => .er)
            | _ => .er
          | _ => .er)
        | none => .er) Dn := k1
      cases ek : ixN xs.length z with
      | none => rw [ek] at k1; exact k1.elim
      | some k =>
        rw [ek] at k1
        simp only at k1
        split at k1
        · rename_i us eu
          have st2 := st1.step s2
          obtain ⟨v1, e1', oa, ot, nd⟩ := st2.ownT hmd exs
          rw [e0] at e1'
          cases e1'
          obtain ⟨pa', vs, ds, fps, eq, eds, ef, sp, hp, hl, hfl, hin⟩ := id ot
          cases eq; cases eds
          have hkl := (ixN_seq ek).2.1
          have fk : fps[k]? = some (fps[k]'(by omega)) := List.getElem?_eq_getElem (by omega)
          have vk : vs[k]? = some (vs[k]'(by omega)) := List.getElem?_eq_getElem (by omega)
          have oc := hin k _ _ _ vk eu fk
          obtain ⟨q, ws, _, _, eqq, _, _, _, hqq, hlq, _⟩ := id oc
          have hat : L2.atI vs z = some (V.ref q) := by
            unfold L2.atI
            rw [hl, ek]
            show vs[k]? = _
            rw [vk, eqq]
          refine .inl ⟨pa, vs, z, V.ref q, rfl, rfl, .inl (.inl hp), hat, ?_⟩
          refine ⟨S2, ρ, st2.envM, (lift_post st2 k1).post fun dz vz S3 H3 s3 rz k2 => ?_⟩
          cases dz with
          | int z2 =>
            cases rz
            have k2 : SPost X.K X.mg E L S0 H0 m (match ixN us.length z2 with
              | some k2 => .ok (.nx (ρ.set i (some (.lst (xs.set k (.lst (us.set k2 d)))))))
              | none => .er) Dn := k2
            split at k2
            · rename_i kk ekk
              have st3 := st2.step s3
              have on := (mdT_own.mp o).step (s2.trans s3)
              have na : ∀ a, a ∈ fp → H0 a = none ∧ ∀ j d, ρ[j]? = some (some d) → a ∉ Fp j := fun a ha => new_apart st hf ha
              have ffi : ∀ a, a ∈ (fps[k]'(by omega)) → a ∈ Fp i := fun a ha => by rw [ef]; exact List.mem_cons_of_mem _ (flat_mem fk ha)
              have nd2 := nd
              rw [ef, List.nodup_cons, nd_split fk] at nd2
              have hkk := (ixN_seq ekk).2.1
              obtain ⟨q', ws', eq', hq', hl', hqf, f', ot', hn', hf'⟩ := (oc.step s3).setI nd2.2.1 on hn (fun a ha hb => (na a ha).2 i _ exs (ffi a hb)) hkk
              obtain rfl : q' = q := by rw [eqq] at eq'; injection eq' with z; exact z.symm
              obtain ⟨v2, e2', oa2, ot2, _⟩ := st3.ownT hmd exs
              rw [e0] at e2'
              cases e2'
              refine ⟨q', ws', z2, kk, rfl, rfl, hq', by rw [hl']; exact ekk, k2 σ _ ?_⟩
              exact inner_change (n := n + 1) st3 hmd exs e0 oa2 ef (s3.out sp hp) (s3.hh _ _ hp) hl hfl (fun j w e f a b c => (hin j w e f a b c).step s3) vk fk (fun a ha => upd_ne fun z => ha (by rw [z]; exact hqf)) ot' hn' hf' na
            · exact k2.elim
          | _ => exact k2.elim
        · exact k1.elim
    | _ => exact k1.elim
  · exact p.elim
end
end Da
namespace Da
open PySem PySem.Spec L2
mutual
def noLst : D → Bool
  | .non => true
  | .bl _ => true
  | .int _ => true
  | .str _ => true
  | .tup xs => noLsts xs
  | .obj _ _ xs => noLsts xs
  | _ => false
def noLsts : List D → Bool
  | [] => true
  | x :: xs => noLst x && noLsts xs
end
theorem noLsts_at : ∀ {ds : List D} {i : Nat} {d : D}, noLsts ds = true → ds[i]? = some d → noLst d = true
  | [], i, d, _, h => by simp at h
  | x :: xs, 0, d, h, e => by
    cases e
    unfold noLsts at h
    exact (Bool.and_eq_true_iff.mp h).1
  | x :: xs, i + 1, d, h, e => by
    unfold noLsts at h
    exact noLsts_at (Bool.and_eq_true_iff.mp h).2 (by simpa using e)
/-- a list or a dict -/
def isBox : HO → Bool
  | .lst _ => true
  | .dK _ => true
  | .dT _ => true
  | _ => false
def noOb (m : Mds) : Bool := m.all fun md => match md with
  | .ob _ => false
  | _ => true
section
variable {K : PySem.W.Frag} {mg : Str → Option Value} {m m1 : Mds} {S S' H H' : Hp} {σ : L2.St} {ρ : Env} {fp : List Addr} {v : V} {d : D}
theorem OwnTr.box : ∀ {n : Nat} {fp : List Addr} {v : V} {d : D}, OwnTr K mg S H n fp v d → ∀ {a : Addr}, a ∈ fp → ∃ o, H a = some o ∧ isBox o = true
  | 0, _, _, _, h, a, ha => by rw [h.2] at ha; cases ha
  | n + 1, _, _, _, h, a, ha => by
    obtain ⟨p, vs, ds, fps, e1, e2, e3, e4, e5, e6, e7, e8⟩ := h
    rw [e3] at ha
    rcases List.mem_cons.mp ha with rfl | ha
    · exact ⟨_, e5, rfl⟩
    · obtain ⟨j, f, hj, hf⟩ := mem_flat ha
      have hl := (List.getElem?_eq_some_iff.mp hj).1
      exact (e8 j _ _ f (List.getElem?_eq_getElem (by omega)) (List.getElem?_eq_getElem (by omega)) hj).box hf
theorem OwnAt.box {md : Md} (hmd : ∀ p, md ≠ .ob p) (h : OwnAt K mg S H fp v d md) {a : Addr} (ha : a ∈ fp) : ∃ o, H a = some o ∧ isBox o = true := by
  cases md with
  | owq q0 =>
    obtain ⟨e0, p, vs, ds, e1, e2, e3, e4, e5, e6⟩ := h
    rw [e3] at ha
    have : a = p := by simpa using ha
    subst this
    exact ⟨_, e5, rfl⟩
  | tr n b at_ =>
    cases b with
    | none => exact h.2.box ha
    | some kq =>
      obtain ⟨h0, p, vs, ds, fps, e1, e2, e3, e4, e5, e6, e7, h1, h2, h3, e8⟩ := h
      rw [e3] at ha
      rcases List.mem_cons.mp ha with rfl | ha
      · exact ⟨_, e5, rfl⟩
      · obtain ⟨j, f, hj, hf⟩ := mem_flat ha
        have hl := (List.getElem?_eq_some_iff.mp hj).1
        have hjk : j ≠ kq.1 := fun z => by rw [z, h3] at hj; cases hj; cases hf
        exact (e8 j _ _ f hjk (List.getElem?_eq_getElem (by omega)) (List.getElem?_eq_getElem (by omega)) hj).box hf
  | ex a0 b0 c0 =>
    obtain ⟨c, vfs, ds, e1, e2, e3, e4, e5, e6⟩ := h
    rw [e3] at ha; cases ha
  | sh => rw [h.2] at ha; cases ha
  | ow =>
    obtain ⟨p, vs, ds, e1, e2, e3, e4, e5, e6⟩ := h
    rw [e3] at ha
    have : a = p := by simpa using ha
    subst this
    exact ⟨_, e5, rfl⟩
  | ow2 =>
    obtain ⟨p, ps, dss, e1, e2, e3, e4, e5, e6, e7⟩ := h
    rw [e3] at ha
    rcases List.mem_cons.mp ha with z | z
    · subst z; exact ⟨_, e5, rfl⟩
    · obtain ⟨j, hj⟩ := List.mem_iff_getElem?.mp z
      have hl : j < dss.length := by rw [← e6]; exact (List.getElem?_eq_some_iff.mp hj).1
      obtain ⟨z1, vs, z2, _⟩ := e7 j a _ hj (List.getElem?_eq_getElem hl)
      exact ⟨_, z2, rfl⟩
  | dk =>
    obtain ⟨p, vs, ds, e1, e2, e3, e4, e5, e6⟩ := h
    rw [e3] at ha
    have : a = p := by simpa using ha
    subst this
    exact ⟨_, e5, rfl⟩
  | dt =>
    obtain ⟨p, vs, ds, e1, e2, e3, e4, e5, e6⟩ := h
    rw [e3] at ha
    have : a = p := by simpa using ha
    subst this
    exact ⟨_, e5, rfl⟩
  | ob q => exact absurd rfl (hmd q)
theorem noOb_at (h : noOb m = true) (i : Nat) (p : Addr) : mdAt m i ≠ .ob p := by
  intro z
  unfold mdAt at z
  rw [List.getD_eq_getElem?_getD] at z
  cases e : m[i]? with
  | none => rw [e] at z; cases z
  | some md =>
    rw [e] at z
    have z : md = .ob p := z
    have := List.all_eq_true.mp h md (List.mem_of_getElem? e)
    rw [z] at this
    cases this
theorem EnvM.peekX (h : EnvM K mg m S H σ ρ) (w : Weak m m1) (hb : noOb m = true) : ∃ S', Same S S' ∧ EnvM K mg m1 S' H σ ρ ∧ ∀ a, S' a ≠ none → S a ≠ none ∨ ∃ o, H a = some o ∧ isBox o = true := by
  obtain ⟨hs, F, e⟩ := h
  have st : StF K mg m (fun _ => none) (fun _ => none) S F σ ρ H := ⟨⟨(fun a o z => nomatch z), (fun a o z => nomatch z), hs, (fun a _ => .inr rfl)⟩, e, fun i d _ a _ => rfl⟩
  obtain ⟨S', F', st', ss, hx⟩ := st.weakX w
  refine ⟨S', ss, st'.envM, fun a x => ?_⟩
  rcases hx a x with z | ⟨i, d, e1, e2⟩
  · exact .inl z
  · obtain ⟨v, _, o⟩ := e.at_ i d e1
    exact .inr (o.box (noOb_at hb i) e2)
theorem Rep.nl {S1 S2 : Hp} (hx : ∀ a o, S1 a = some o → isBox o = false → S2 a = some o) {v : V} {d : D} (h : Rep K mg S1 v d) : noLst d = true → Rep K mg S2 v d := by
  induction h with
  | non => exact fun _ => .non
  | bl b => exact fun _ => .bl b
  | int i => exact fun _ => .int i
  | str x => exact fun _ => .str x
  | lst h hl _ ih => intro z; unfold noLst at z; cases z
  | frl h hl _ ih => intro z; unfold noLst at z; cases z
  | tup h hl _ ih =>
    intro z
    unfold noLst at z
    refine .tup ?_ hl fun i v d a b => ih i v d a b (noLsts_at z b)
    exact hx _ _ h rfl
  | dic h hl _ ih => intro z; unfold noLst at z; cases z
  | dit h hl _ ih => intro z; unfold noLst at z; cases z
  | obj h hm hl _ ih =>
    intro z
    unfold noLst at z
    exact .obj (hx _ _ h rfl) hm hl fun i v d a b => ih i v d a b (noLsts_at z b)
  | exc => intro z; unfold noLst at z; cases z
end
def fNl (f : Env → Res D) : Env → Res D := fun ρ => match f ρ with
  | .ok d => if noLst d = true then .ok d else .er
  | _ => .er
section
variable {X : Cx} {E : WX} {L : Lp} {m m1 m2 m3 : Mds} {md : Md} {a b e j : Expr} {es : List Expr} {f fa fb fj : Env → Res D} {g : Env → Res Bool} {pos p p1 p2 p3 p4 : Pos} {x y : Str}
theorem je_borrowNl (h : JE X E m1 .sh e f) (w : Weak m m1 := by first | exact Weak.of (by decide) | exact weak_sh _ | (repeat (first | exact Weak.refl _ | exact weak_sh _ | apply Weak.cons | apply Weak.consSh))) (hb : noOb m = true := by rfl) : JE X E m .sh e (fNl f) := by
  refine ⟨PEimp h.pe fun σ H Q q => ?_⟩
  obtain ⟨S, ρ, hm, hp⟩ := q
  obtain ⟨S', ss, hm', hx⟩ := hm.peekX w hb
  refine ⟨S', ρ, hm', ?_⟩
  unfold fNl at hp
  split at hp
  · rename_i d ed
    obtain ⟨hd, hp⟩ := Post.of_if hp
    rw [ed]
    intro v S1 H1 fp s1 o _ _
    let S2 : Hp := fun a => match S1 a with
      | some u => (match S a with
        | some _ => some u
        | none => if isBox u = true then none else some u)
      | none => none
    have e2 : ∀ a u, S2 a = some u → S1 a = some u := fun a u z => by
      simp only [S2] at z
      split at z
      · rename_i u' eu
        split at z
        · cases z; exact eu
        · split at z
          · cases z
          · cases z; exact eu
      · cases z
    have e3 : ∀ a u, S1 a = some u → isBox u = false → S2 a = some u := fun a u z hu => by
      simp only [S2]
      rw [z]
      simp only
      split
      · rfl
      · rw [if_neg (by rw [hu]; decide)]
    refine hp v S2 H1 [] ⟨s1.hh, fun a u z => ?_, fun a u z => s1.sub a u (e2 a u z), fun a z => ?_⟩ ⟨o.1.nl e3 hd, rfl⟩ List.nodup_nil (fun a z => nomatch z)
    · have := s1.ss _ _ (ss _ _ z)
      simp only [S2]
      rw [this]
      simp only
      rw [z]
    · obtain ⟨u, hu⟩ := some_of_ne z
      have h1 := e2 a u hu
      rcases s1.new a (by rw [h1]; exact fun z => nomatch z) with k | k
      · rcases hx a k with k | ⟨o', k1, k2⟩
        · exact .inl k
        · have h2 := s1.hh _ _ k1
          have h3 := s1.sub _ _ h1
          rw [h2] at h3
          cases h3
          refine .inl fun w => ?_
          simp only [S2] at hu
          rw [h1] at hu
          simp only at hu
          rw [w] at hu
          simp only at hu
          rw [if_pos k2] at hu
          cases hu
      · exact .inr k
  · exact hp.elim
/-- a slice of an own list: a new list of one's own -/
theorem je_cutLO (i : Nat) {l h : Option Expr} {fl fh : Env → Res (Option Int)} (hl : JO X E m l fl) (hh : JO X E m h fh) (hmd : IsOw (mdAt m i) := by first | exact .inl rfl | exact .inr ⟨_, rfl⟩) (hN : X.N[i]? = some x := by rfl) (hv : Vis X.env.scope x := by first | exact Or.inl rfl | exact Or.inr (Or.inl rfl) | exact Or.inr (Or.inr rfl)) (hd : (x == ("__debug__" : Str)) = false := by decide)
    (hcd : (x == ("__classdict__" : Str)) = false := by decide) : JE X E m .ow (.Subscript (.Name x p) (.Slice l h none p2) pos) (fCut dCutL (fV i) fl fh) := by
  refine ⟨PEimp (pe_slice sl_all (pe_var hN hv hd hcd) hl.po hh.po) fun σ H Q q => ?_⟩
  obtain ⟨S, ρ, hm, hp⟩ := q
  obtain ⟨hsub, F, en⟩ := id hm
  unfold fCut fV at hp
  split at hp
  · rename_i d ed
    obtain ⟨v, e1, o⟩ := en.at_ i d ed
    obtain ⟨q, vs, ds, rfl, rfl, e3, e4, e5, e6⟩ : ∃ q vs ds, v = .ref q ∧ d = .lst ds ∧ F i = [q] ∧ S q = none ∧ H q = some (.lst vs) ∧ RepL X.K X.mg S vs ds := by
      rcases hmd with hmd | ⟨q0, hmd⟩
      · rw [hmd] at o
        exact o
      · rw [hmd] at o
        exact o.2
    have hp : Post X.K X.mg (WE E σ) S H .ow ((fl ρ).bind fun l => (fh ρ).bind fun h => dCutL (.lst ds) l h) Q := hp
    refine ⟨_, e1, S, ρ, hm, (Post.bind hp).imp fun lo S2 H2 s2 k2 => ⟨S2, ρ, hm.step s2, (Post.bind k2).imp fun hi S3 H3 s3 k3 => ?_⟩⟩
    exact .inl ⟨q, vs, rfl, .inl (.inl ((s2.trans s3).hh _ _ e5)), fun p hp => Post.own k3 s3.sub (repl_cut (e6.mono (s2.trans s3).ss) lo hi) hp⟩
  · exact hp.elim
end
end Da
namespace Da
open PySem PySem.Spec L2
end Da
namespace Da
open PySem PySem.Spec L2
section
variable {K : PySem.W.Frag} {mg : Str → Option Value} {m : Mds} {S0 H0 S S' H H' : Hp} {σ : L2.St} {ρ : Env} {F : Nat → List Addr} {D0 : Addr} {o : HO}
theorem StF.wipe (st : StF K mg m S0 H0 S F σ ρ H) (vs : List Nat) : StF K mg m S0 H0 S F (L2.wipe σ vs) (wipeD ρ vs) H := by
  obtain ⟨s, en, nw⟩ := st
  refine ⟨s, en.wipe vs, fun i d ei => nw i d ?_⟩
  induction vs with
  | nil => exact ei
  | cons v vs ih =>
    unfold wipeD at ei
    rw [List.getElem?_set] at ei
    split at ei
    · split at ei <;> cases ei
    · exact ih ei
end
end Da
namespace Da
open PySem PySem.Spec L2
end Da
namespace Da
open PySem PySem.Spec L2
end Da
namespace Da
open PySem PySem.Spec L2
end Da
namespace Da
open PySem PySem.Spec L2
def f3 (g : D → D → D → Res D) (fa fb fc : Env → Res D) : Env → Res D := fun ρ => (fa ρ).bind fun x => (fb ρ).bind fun y => (fc ρ).bind fun z => g x y z
end Da
namespace Da
open PySem PySem.Spec L2
inductive MgAll (mg : Str → Option Value) : List Str → List Addr → Prop
  | nil : MgAll mg [] []
  | cons {y : Str} {Y : Addr} {ys : List Str} {Ys : List Addr} (h : mg y = some (.ref Y)) (t : MgAll mg ys Ys) : MgAll mg (y :: ys) (Y :: Ys)
theorem MgAll.eq {mg : Str → Option Value} : ∀ {ys : List Str} {Ys Zs : List Addr}, MgAll mg ys Ys → MgAll mg ys Zs → Ys = Zs
  | _, _, _, .nil, .nil => rfl
  | _, _, _, .cons h t, .cons h' t' => by
    rw [h] at h'
    have := Option.some.inj h'
    injection this with this
    rw [this, MgAll.eq t t']
end Da
namespace Da
open PySem PySem.Spec PyProof.Rows L2
theorem sumT_raw {prog : Program} {w : World} {A : Around} {E : Value → Shared → Prop} {s : Shared} {l : Addr} {its : List Value} {ns : List Int} {Q : Value → Shared → Prop} (hh : A.handled = none) (hl : s.heap.IsTuple l its.toArray) (hi : IntsAre its ns)
    (h : ∀ h' tk t', (∀ b o, s.heap.get? b = some o → h'.get? b = some o) → Q (.int ns.sum t') { s with heap := h', toks := tk }) : wpAny (model prog w) A (call (.builtin "sum") [.ref l]) Q E s := by
  obtain ⟨xs, e⟩ := hi.allInts.items
  have hn : numsOf (intItems xs).toList = ns := by rw [← e]; exact hi.numsOf
  rw [nums_intItems] at hn
  rw [e] at hl
  refine PySem.W.ktm_sumG hh hl fun h' tk t' hk => ?_
  have := h h' tk t' hk
  rw [preSum_eq, List.take_of_length_le (by simp), hn]; exact this
section
variable {X : Cx} {E : WX} {m : Mds} {e : Expr} {fs : Env → Res (List D)} {p pos : Pos}
def rSumTp (K : PySem.W.Frag) : List V → Hp → VK → Prop := fun vs H Q => ∃ (a : Addr) (ns : List Int), vs = [V.ref a] ∧ SqT K H a (ns.map V.int) ∧ Q (.int ns.sum) H
theorem cr_sumTp (hc : X.calm = true) : CallR X (.builtin "sum") (rSumTp X.K) := by
  intro pins s σ H vs us Q I r h
  obtain ⟨a, ns, rfl, hs, q⟩ := h
  obtain ⟨its, rv, hl, _⟩ := I.tuple hs
  rw [Vals.ref1 r]
  exact sumT_raw (I.ok.hd hc) hl rv.ints fun h' tk t' hk => ⟨.int _, H, I.kept hk, ⟨_, rfl⟩, q⟩
def dSumT : D → Res D
  | .tup xs => match intsD xs with
    | some ns => .ok (.int ns.sum)
    | none => .er
  | _ => .er
end
end Da
namespace Da
open PySem PySem.Spec L2
section
variable {K : PySem.W.Frag} {mg : Str → Option Value} {X : Cx} {E : WX} {L : Lp} {m : Mds} {e : Expr} {f : Env → Res D} {pos : Pos} {x : Str}
theorem pget_list : PGet X (rIxL X.K) := fun pins st σ H o ix ov iv Q inv ro ri hyp => by
  rcases hyp with ⟨adr, row, z, val, rfl, rfl, sq, got, fin⟩
  cases ro
  rcases ri with ⟨tk, rfl⟩
  rcases inv.list sq with ⟨arr, vals, place, _⟩
  rcases atI_get got with ⟨k, k1, k2, k3, k4, k5⟩
  rcases vals.get k2 with ⟨item, g1, g2⟩
  have same := vals.length
  have room := line63
  have done : EP X pins σ Q item st := ⟨val, H, inv, g2, fin⟩
  by_cases neg : z < 0
  · have kk : (z + (row.length : Int)).toNat = k := Option.some.inj ((seqIndex_neg neg k4).symm.trans k1)
    refine wpAny_getItem_list_neg place.isList neg ?_ (by omega) ?_ done
    · rw [List.size_toArray, ← same]
      omega
    · rw [List.size_toArray, ← same, kk]
      simpa using g1
  · have kk : z.toNat = k := Option.some.inj ((seqIndex_of (by omega) k5).symm.trans k1)
    refine wpAny_getItem_list place.isList (by omega) (by omega) ?_ done
    rw [kk]
    simpa using g1
end
end Da
namespace Da
open PySem PySem.Spec L2
/-- what one dict takes over from another -/
def mrgK (kvs : List (Key × V)) : List (Key × V) → List (Key × V)
  | [] => kvs
  | p :: more => mrgK (putK kvs p.1 p.2) more
theorem mrgK_len : ∀ {more kvs : List (Key × V)}, (mrgK kvs more).length ≤ kvs.length + more.length
  | [], kvs => by unfold mrgK; simp
  | p :: more, kvs => by
    unfold mrgK
    have a := mrgK_len (more := more) (kvs := putK kvs p.1 p.2)
    have b := length_putK kvs p.1 p.2
    rw [List.length_cons]
    omega
theorem mrg_rel : ∀ {more kvs : List (Key × V)} {ws vs : List (Key × Value)}, KV kvs vs → KV more ws → KV (mrgK kvs more) (merged vs ws)
  | [], kvs, ws, vs, r, q => by
    cases q
    exact r
  | p :: more, kvs, ws, vs, r, q => by
    cases q with
    | cons h t =>
      rename_i w ws
      unfold mrgK merged
      rw [List.foldl_cons]
      have e : p.1 = w.1 := h.1
      rw [e]
      exact mrg_rel (r.put w.1 h.2) t
def rUpd (x : V) (vs : List V) (H : Hp) (Q : VK) : Prop := ∃ d b kvs more, x = .ref d ∧ vs = [.ref b] ∧ d ≠ b ∧ H d = some (.dK kvs) ∧ Rd H b (.dK more) ∧ kvs.length + more.length ≤ sizeLine ∧ Q .non (upd H d (.dK (mrgK kvs more)))
theorem mt_upd {X : Cx} : MtR X "dict.update" rUpd := fun pins st σ H x vs ov us Q inv rx rv hyp => by
  rcases hyp with ⟨d, b, kvs, more, rfl, rfl, apart, hd, hb, room, fin⟩
  cases rx
  rcases rv.one with ⟨u, rfl, ru⟩
  cases ru
  rcases dk_of inv.hok hd with ⟨_, sys1, ks1, rel1, dict1⟩
  rcases dk_rd inv.hok hb with ⟨_, sys2, ks2, rel2, dict2⟩
  have small : ks1.length + ks2.length ≤ sizeLine := by
    rw [← rel1.length, ← rel2.length]
    exact room
  refine call_meetsIn PySem.F.slot_dict_update dict1.typeIs PySem.F.entry_dict_update (PySem.F.args_dict_update_2 _ _) (meets_dict_update (mixKind X.prog X.w) d b apart sys2) ⟨ks1, ks2, dict1, dict2, small, fun h' new _ only => ?_⟩
  have there : ∃ o, h'.get? d = some o := let ⟨o, _, _, ho, _⟩ := new; ⟨o, ho⟩
  exact ⟨.non, _, d_write inv (by rw [hd]; trivial) only there (dk_new (Nat.le_trans mrgK_len room) sys1 (mrg_rel rel1 rel2) new), rfl, fin⟩
/-- the same of data -/
def mrgKs : List Key → List Key → List Key
  | ks, [] => ks
  | ks, k :: more => mrgKs (putKs ks k) more
def mrgVs : List Key → List D → List Key → List D → List D
  | ks, ds, k :: more, d :: es => mrgVs (putKs ks k) (putVs ks ds k d) more es
  | _, ds, _, _ => ds
theorem mrg_ok {K : PySem.W.Frag} {mg : Str → Option Value} {S : Hp} : ∀ {more kvs : List (Key × V)} {ds es : List D}, RepL K mg S (kvs.map (·.2)) ds → RepL K mg S (more.map (·.2)) es →
    (mrgK kvs more).map (·.1) = mrgKs (kvs.map (·.1)) (more.map (·.1)) ∧ RepL K mg S ((mrgK kvs more).map (·.2)) (mrgVs (kvs.map (·.1)) ds (more.map (·.1)) es)
  | [], kvs, ds, es, r, q => by
    cases es <;> exact ⟨rfl, r⟩
  | p :: more, kvs, ds, [], r, q => by
    have := q.len
    simp at this
  | p :: more, kvs, ds, e :: es, r, q => by
    have h : Rep K mg S p.2 e := q.at_ 0 _ _ rfl rfl
    have t : RepL K mg S (more.map (·.2)) es := ⟨by have := q.len; simpa using this, fun i v d ev ed => q.at_ (i + 1) v d (by simpa using ev) (by simpa using ed)⟩
    obtain ⟨a1, a2⟩ := put_ok (k := p.1) r h
    obtain ⟨b1, b2⟩ := mrg_ok a2 t
    rw [a1] at b1 b2
    exact ⟨b1, b2⟩
def fUpd (i : Nat) (f : Env → Res D) : FS := fun ρ => match ρ[i]? with
  | some (some (.dic ks ds)) => lift (f ρ) ρ fun d => match d with
    | .dic ks2 es => if szOk (ks.length + ks2.length) = true then .ok (.nx (ρ.set i (some (.dic (mrgKs ks ks2) (mrgVs ks ds ks2 es))))) else .er
    | _ => .er
  | _ => .er
section
variable {X : Cx} {E : WX} {L : Lp} {m : Mds} {e : Expr} {f : Env → Res D} {pos : Pos} {x : Str}
theorem js_upd (i : Nat) {p1 p2 p3 : Pos} (he : JE X E m .sh e f) (hmd : mdAt m i = .dk := by rfl) (hN : X.N[i]? = some x := by rfl) (hv : Vis X.env.scope x := by first | exact Or.inl rfl | exact Or.inr (Or.inl rfl) | exact Or.inr (Or.inr rfl))
    (hd : (x == ("__debug__" : Str)) = false := by decide) (hcd : (x == ("__classdict__" : Str)) = false := by decide) (hs : swapsWith (.Call (.Attribute (.Name x p1) "update" p2) [e] [] p3) none pos.line X.env = pure false := by rfl)
    (hpe : ∀ {to te : TE}, PE X (.Name x p1) to → PE X e te → PE X (.Call (.Attribute (.Name x p1) "update" p2) [e] [] p3) (tBM X.K "dict" rUpd to (tCons te tNil)) := by
      intro to te ho he
      exact pe_bm PySem.F.plainAttrs_dict PySem.F.slot_dict_update PySem.F.type_dict_update mt_upd ho (pa_cons he pa_nil)) :
    JS X E L m m (.Expr (.Call (.Attribute (.Name x p1) "update" p2) [e] [] p3) pos) (fUpd i f) := by
  refine ⟨PSimp (ps_expr (hpe (pe_var hN hv hd hcd) he.pe) hs) fun D σ H h => ?_⟩
  obtain ⟨S0, H0, ρ, ⟨S, Fp, st⟩, p⟩ := h
  unfold fUpd at p
  split at p
  · rename_i ks ds exs
    obtain ⟨w0, e0, o0⟩ := st.2.1.at_ i _ exs
    have o0' := o0
    rw [hmd] at o0'
    obtain ⟨q0, kvs0, ds0, ew0, _, _, _, hq0, _⟩ := o0'
    subst ew0
    refine ⟨_, e0, .inr (.inr (.inl ⟨rfl, .inl ⟨kvs0, hq0⟩⟩)), S, ρ, st.envM, (lift_post st p).post fun d v S1 H1 s1 r k => ?_⟩
    have st1 := st.step s1
    split at k
    · rename_i ks2 es
      split at k
      · rename_i hz
        obtain ⟨w2, e2, o2⟩ := st1.2.1.at_ i _ exs
        rw [e0] at e2
        cases e2
        rw [hmd] at o2
        obtain ⟨q, kvs, ds', ew, ed, efp, sq, hq, rv⟩ := o2
        cases ed
        obtain ⟨b, more, rfl, hb, rfl, rm⟩ := r.of_dic
        obtain ⟨m1, m2⟩ := mrg_ok rv rm
        have apart : q ≠ b := fun z => by
          rcases hb with hb | ⟨o, hb⟩ <;> (rw [z, hb] at sq; cases sq)
        have hz := szOk_le hz
        rw [List.length_map, List.length_map] at hz
        refine ⟨q, b, kvs, more, ew, rfl, apart, hq, same_rd s1.sub hb, by rw [sizeLine_eq]; omega, ?_⟩
        refine k σ _ (st1.writeG (v := .ref q0) (d1 := .dic (mrgKs (kvs.map (·.1)) (more.map (·.1))) (mrgVs (kvs.map (·.1)) ds (more.map (·.1)) es)) exs efp e0 sq ?_).stM
        rw [hmd]
        exact ⟨q, mrgK kvs more, _, ew, by rw [m1], rfl, sq, upd_same, m2⟩
      · exact k.elim
    · exact k.elim
  · exact p.elim
end
end Da
namespace Da
open PySem PySem.Spec L2
/-- the same data in another view and heap -/
structure Lk (K : PySem.W.Frag) (mg : Str → Option Value) (S H S1 H1 : Hp) : Prop where
  rep : ∀ v d, Rep K mg S v d → Rep K mg S1 v d
  own : ∀ p o, S p = none → H p = some o → S1 p = none ∧ H1 p = some o
  xd : ∀ p o, S p = some (.xd o) → S1 p = some (.xd o)
section
variable {K : PySem.W.Frag} {mg : Str → Option Value} {S S1 H H1 : Hp}
theorem RepL.lk (l : Lk K mg S H S1 H1) {vs : List V} {ds : List D} (h : RepL K mg S vs ds) : RepL K mg S1 vs ds := ⟨h.len, fun i v d a b => l.rep v d (h.at_ i v d a b)⟩
theorem OwnTr.lk (l : Lk K mg S H S1 H1) : ∀ {n : Nat} {fp : List Addr} {v : V} {d : D}, OwnTr K mg S H n fp v d → OwnTr K mg S1 H1 n fp v d
  | 0, _, _, _, h => ⟨l.rep _ _ h.1, h.2⟩
  | n + 1, _, _, _, h => by
    obtain ⟨p, vs, ds, fps, e1, e2, e3, e4, e5, e6, e7, e8⟩ := h
    obtain ⟨z4, z5⟩ := l.own _ _ e4 e5
    exact ⟨p, vs, ds, fps, e1, e2, e3, z4, z5, e6, e7, fun j w e f x y z => (e8 j w e f x y z).lk l⟩
theorem OwnTh.lk (l : Lk K mg S H S1 H1) {n k : Nat} {q : Addr} {fp : List Addr} {v : V} {d : D} (h : OwnTh K mg S H n k q fp v d) : OwnTh K mg S1 H1 n k q fp v d := by
  obtain ⟨p, vs, ds, fps, e1, e2, e3, e4, e5, e6, e7, h1, h2, h3, e8⟩ := h
  obtain ⟨z4, z5⟩ := l.own _ _ e4 e5
  exact ⟨p, vs, ds, fps, e1, e2, e3, z4, z5, e6, e7, h1, h2, h3, fun j w e f i x y z => (e8 j w e f i x y z).lk l⟩
theorem OwnAt.lk (l : Lk K mg S H S1 H1) {fp : List Addr} {v : V} {d : D} {md : Md} (h : OwnAt K mg S H fp v d md) : OwnAt K mg S1 H1 fp v d md := by
  cases md with
  | owq q0 =>
    obtain ⟨e0, p, vs, ds, e1, e2, e3, e4, e5, e6⟩ := h
    obtain ⟨z4, z5⟩ := l.own _ _ e4 e5
    exact ⟨e0, p, vs, ds, e1, e2, e3, z4, z5, e6.lk l⟩
  | tr n b at_ =>
    cases b with
    | none => exact ⟨h.1, h.2.lk l⟩
    | some kq => exact ⟨h.1, h.2.lk l⟩
  | ex a0 b0 c0 =>
    obtain ⟨c, vfs, ds, e1, e2, e3, e4, e5, e6⟩ := h
    exact ⟨c, vfs, ds, e1, e2, e3, e4, e5.imp id fun ⟨dx, y1, y2⟩ => ⟨dx, y1, l.xd _ _ y2⟩, e6.lk l⟩
  | sh => exact ⟨l.rep _ _ h.1, h.2⟩
  | ow =>
    obtain ⟨p, vs, ds, e1, e2, e3, e4, e5, e6⟩ := h
    obtain ⟨z4, z5⟩ := l.own _ _ e4 e5
    exact ⟨p, vs, ds, e1, e2, e3, z4, z5, e6.lk l⟩
  | ow2 =>
    obtain ⟨p, ps, dss, e1, e2, e3, e4, e5, e6, e7⟩ := h
    obtain ⟨z4, z5⟩ := l.own _ _ e4 e5
    refine ⟨p, ps, dss, e1, e2, e3, z4, z5, e6, fun j q ds x y => ?_⟩
    obtain ⟨z1, vs, z2, z3⟩ := e7 j q ds x y
    obtain ⟨y1, y2⟩ := l.own _ _ z1 z2
    exact ⟨y1, vs, y2, z3.lk l⟩
  | dk =>
    obtain ⟨p, vs, ds, e1, e2, e3, e4, e5, e6⟩ := h
    obtain ⟨z4, z5⟩ := l.own _ _ e4 e5
    exact ⟨p, vs, ds, e1, e2, e3, z4, z5, e6.lk l⟩
  | dt =>
    obtain ⟨p, vs, ds, e1, e2, e3, e4, e5, e6⟩ := h
    obtain ⟨z4, z5⟩ := l.own _ _ e4 e5
    exact ⟨p, vs, ds, e1, e2, e3, z4, z5, e6.lk l⟩
  | ob p =>
    obtain ⟨dx, C, c, fs, ds, e1, e2, e3, e4, e5, e6, e7, e8, e9⟩ := h
    obtain ⟨z4, z7⟩ := l.own _ _ e4 e7
    obtain ⟨z5, z8⟩ := l.own _ _ e5 e8
    exact ⟨dx, C, c, fs, ds, e1, e2, e3, z4, z5, e6, z7, z8, e9.lk l⟩
theorem EnvM.lk (l : Lk K mg S H S1 H1) (s : Same S1 H1) {m : Mds} {σ : L2.St} {ρ : Env} (h : EnvM K mg m S H σ ρ) : EnvM K mg m S1 H1 σ ρ := by
  obtain ⟨_, F, h⟩ := h
  exact ⟨s, F, h.len, fun i d e => by
    obtain ⟨v, e1, e2⟩ := h.at_ i d e
    exact ⟨v, e1, e2.lk l⟩, h.nd, h.apart⟩
/-- lists and dicts are read alike where one dict's lock changes -/
theorem rep_lk (f : ∀ b u, (∀ o w, u ≠ .frz o w) → Rd S b u → Rd S1 b u) (g : ∀ b u, (∀ kvs, u ≠ .dK kvs) → (∀ o w, u ≠ .frz o w) → S b = some u → S1 b = some u) {v : V} {d : D} (h : Rep K mg S v d) : Rep K mg S1 v d := by
  induction h with
  | non => exact .non
  | bl b => exact .bl b
  | int i => exact .int i
  | str x => exact .str x
  | lst h hl _ ih => exact .lst (g _ _ (fun _ z => nomatch z) (fun _ _ z => nomatch z) h) hl ih
  | frl h hl _ ih =>
    refine .frl ?_ hl ih
    rcases h with h | h
    · exact .inl (f _ _ (fun _ _ z => nomatch z) h)
    · exact .inr h
  | tup h hl _ ih => exact .tup (g _ _ (fun _ z => nomatch z) (fun _ _ z => nomatch z) h) hl ih
  | dic h hl _ ih => exact .dic (f _ _ (fun _ _ z => nomatch z) h) hl ih
  | dit h hl _ ih => exact .dit (g _ _ (fun _ z => nomatch z) (fun _ _ z => nomatch z) h) hl ih
  | obj h hm hl _ ih => exact .obj (g _ _ (fun _ z => nomatch z) (fun _ _ z => nomatch z) h) hm hl ih
  | exc => exact .exc
theorem lk_on {a : Addr} {kvs : List (Key × V)} {od : Obj} (ha : S a = some (.dK kvs)) (s : Same S H) : Lk K mg S H (upd S a (.frz od (.dK kvs))) (upd H a (.frz od (.dK kvs))) where
  rep := fun v d h => rep_lk (fun b u hu r => by
    by_cases hb : b = a
    · subst hb
      rcases r with r | ⟨o, r⟩
      · rw [ha] at r
        cases r
        exact .inr ⟨od, upd_same⟩
      · rw [ha] at r
        cases r
    · rcases r with r | ⟨o, r⟩
      · exact .inl (by rw [upd_ne hb]; exact r)
      · exact .inr ⟨o, by rw [upd_ne hb]; exact r⟩) (fun b u h1 h2 r => by
    rw [upd_ne (fun z => by subst z; rw [ha] at r; cases r; exact h1 _ rfl)]
    exact r) h
  own := fun p o hp hq => by
    have hb : p ≠ a := fun z => by rw [z, ha] at hp; cases hp
    rw [upd_ne hb, upd_ne hb]
    exact ⟨hp, hq⟩
  xd := fun p o hp => by
    have hb : p ≠ a := fun z => by rw [z, ha] at hp; cases hp
    rw [upd_ne hb]
    exact hp
theorem lk_off {a : Addr} {kvs : List (Key × V)} {od : Obj} (ha : S a = some (.frz od (.dK kvs))) (s : Same S H) : Lk K mg S H (upd S a (.dK kvs)) (upd H a (.dK kvs)) where
  rep := fun v d h => rep_lk (fun b u hu r => by
    by_cases hb : b = a
    · subst hb
      rcases r with r | ⟨o, r⟩
      · rw [ha] at r
        cases r
        exact absurd rfl (hu _ _)
      · rw [ha] at r
        cases r
        exact .inl upd_same
    · rcases r with r | ⟨o, r⟩
      · exact .inl (by rw [upd_ne hb]; exact r)
      · exact .inr ⟨o, by rw [upd_ne hb]; exact r⟩) (fun b u h1 h2 r => by
    rw [upd_ne (fun z => by subst z; rw [ha] at r; cases r; exact h2 _ _ rfl)]
    exact r) h
  own := fun p o hp hq => by
    have hb : p ≠ a := fun z => by rw [z, ha] at hp; cases hp
    rw [upd_ne hb, upd_ne hb]
    exact ⟨hp, hq⟩
  xd := fun p o hp => by
    have hb : p ≠ a := fun z => by rw [z, ha] at hp; cases hp
    rw [upd_ne hb]
    exact hp
theorem same_upd {a : Addr} {u : HO} (s : Same S H) : Same (upd S a u) (upd H a u) := fun b x e => by
  by_cases hb : b = a
  · subst hb
    rw [upd_same] at e ⊢
    exact e
  · rw [upd_ne hb] at e ⊢
    exact s b x e
theorem same_but {A B : Hp} {a : Addr} {u w : HO} (ha : A a = some u) (s : Same (upd A a w) B) : Same A (upd B a u) := fun b x e => by
  by_cases hb : b = a
  · subst hb
    rw [ha] at e
    rw [upd_same]
    exact e
  · rw [upd_ne hb]
    exact s b x (by rw [upd_ne hb]; exact e)
/-- what was done while the dict stood locked -/
theorem Post.unlock {E E' : XK} {a : Addr} {kvs : List (Key × V)} {od : Obj} {md : Md} {d : D} {Q : VK} (ha : S a = some (.dK kvs)) (hS : Same S H) (h : Post K mg E S H md (.ok d) Q) :
    Post K mg E' (upd S a (.frz od (.dK kvs))) (upd H a (.frz od (.dK kvs))) md (.ok d) fun v H' => H' a = some (.frz od (.dK kvs)) ∧ Q v (upd H' a (.dK kvs)) := by
  intro v S2 H2 fp st ow nd fr
  have h2 : H2 a = some (.frz od (.dK kvs)) := st.hh _ _ upd_same
  have s2 : S2 a = some (.frz od (.dK kvs)) := st.ss _ _ upd_same
  refine ⟨h2, h v (upd S2 a (.dK kvs)) (upd H2 a (.dK kvs)) fp ⟨same_but (hS _ _ ha) st.hh, same_but ha st.ss, same_upd st.sub, fun b x => ?_⟩ (ow.lk (lk_off s2 st.sub)) nd fun b hb => ?_⟩
  · by_cases hb : b = a
    · subst hb
      exact .inl (by rw [ha]; exact fun z => nomatch z)
    · rw [upd_ne hb] at x
      have := st.new b x
      rwa [upd_ne hb, upd_ne hb] at this
  · have e := fr b hb
    have hne : b ≠ a := fun z => by rw [z, upd_same] at e; cases e
    rwa [upd_ne hne] at e
end
theorem walk_k {K : PySem.W.Frag} {mg : Str → Option Value} {S : Hp} {a : Addr} {o : Obj} {kvs : List (Key × V)} (ha : S a = some (.frz o (.dK kvs))) : WalkD K mg (Itk a o kvs) S ((kvs.map (·.1)).map keyDs) where
  go := fun i d S1 H1 e s1 s2 => by
    rw [List.getElem?_map, List.getElem?_map] at e
    cases q : kvs[i]? with
    | none => rw [q] at e; cases e
    | some p =>
      rw [q] at e
      cases e
      refine ⟨⟨s2 _ _ (s1 _ _ ha), (List.getElem?_eq_some_iff.mp q).1⟩, fun x H2 ⟨e2, k, v, y, z⟩ => ?_⟩
      subst e2 z
      rw [q] at y
      cases y
      refine ⟨S1, Step.refl s2, ?_⟩
      cases k with
      | inl i => exact .int i
      | inr s => exact .str s
  stop := fun S1 H1 s1 s2 => ⟨s2 _ _ (s1 _ _ ha), by rw [List.length_map, List.length_map]; exact Nat.le_refl _⟩
theorem pe_or {X : Cx} {e : Expr} {t u : TE} (h : PE X e t) (k : PE X e u) : PE X e fun σ H Q => t σ H Q ∨ u σ H Q :=
  ⟨fun pins s σ H Q I q => q.elim (fun q => h.run pins s σ H Q I q) fun q => k.run pins s σ H Q I q⟩
/-- the keys of a dict -/
def fKy (i : Nat) : Env → Res (List D) := fun ρ => match ρ[i]? with
  | some (some (.dic ks _)) => .ok (ks.map keyDs)
  | _ => .er
theorem dcK_ok {K : PySem.W.Frag} {mg : Str → Option Value} {m : Mds} {g : D → Env → Res Env} {c : Env → Res Bool} {fk fv : Env → Res D} {ts vs : List Nat} {i : Nat} {EE : XK} {σ : L2.St} {S H : Hp} {ρ : Env} {Q : VK} (hts : ∀ t ∈ ts, t ∈ vs) (hmd : mdAt m i = .sh) (hm : EnvM K mg m S H σ ρ) (hp : Post K mg EE S H .dk (fDc vs (fKy i) g c fk fv ρ) Q) :
    tDc (iKeys (tVar i)) (tGD K mg m ts g) (tT K mg EF m c) (tE K mg EF m .sh fk) (tE K mg EF m .sh fv) vs σ H Q ∨
      ∃ a kvs, H a = some (.dK kvs) ∧ ∀ od, tDc (iKeys (tVar i)) (tGD K mg m ts g) (tT K mg EF m c) (tE K mg EF m .sh fk) (tE K mg EF m .sh fv) vs σ (upd H a (.frz od (.dK kvs))) fun v H' => H' a = some (.frz od (.dK kvs)) ∧ Q v (upd H' a (.dK kvs)) := by
  unfold fDc fKy at hp
  split at hp
  · rename_i ks ds exs
    obtain ⟨hs0, Fp, en⟩ := id hm
    obtain ⟨v, ev, ow⟩ := en.at_ i _ exs
    rw [hmd] at ow
    obtain ⟨a, kvs, rfl, ha, rfl, rv⟩ := ow.1.of_dic
    have hp : Post K mg EE S H .dk (if szOk ((kvs.map (·.1)).map keyDs).length = true then (match dcGo g c fk fv (wipeD ρ vs) ((kvs.map (·.1)).map keyDs) [] [] with
      | .ok q => .ok (.dic q.1 q.2)
      | _ => .er) else .er) Q := hp
    rcases ha with ha | ⟨o, ha⟩
    · refine .inr ⟨a, kvs, hm.1 _ _ ha, fun od => ⟨_, ev, a, od, rfl, .inl ⟨kvs, upd_same, ?_⟩⟩⟩
      show tDc (fun _ _ R => R (Itk a od kvs) (upd H a (.frz od (.dK kvs)))) (tGD K mg m ts g) (tT K mg EF m c) (tE K mg EF m Md.sh fk) (tE K mg EF m Md.sh fv) vs σ (upd H a (.frz od (.dK kvs))) fun v H' => H' a = some (.frz od (.dK kvs)) ∧ Q v (upd H' a (.dK kvs))
      refine dc_core (EE := EE) hts (hm.lk (lk_on (od := od) ha hm.1) (same_upd hm.1)) (Step.refl (same_upd hm.1)) (walk_k upd_same) ?_
      split at hp
      · rename_i hz
        rw [if_pos hz]
        split at hp
        · rename_i q eq
          try rw [eq]
          exact hp.unlock ha hm.1
        · exact hp.elim
      · exact hp.elim
    · refine .inl ⟨_, ev, a, o, rfl, .inl ⟨kvs, hm.1 _ _ ha, ?_⟩⟩
      show tDc (fun _ _ R => R (Itk a o kvs) H) (tGD K mg m ts g) (tT K mg EF m c) (tE K mg EF m Md.sh fk) (tE K mg EF m Md.sh fv) vs σ H Q
      exact dc_core (EE := EE) hts hm (Step.refl hm.1) (walk_k ha) hp
  · exact hp.elim
/-- y = {..} on one line: the dict is stored while the comprehension still runs -/
theorem ps_setDc {X : Cx} {i : Nat} {y : Str} {py pos spos : Pos} {kx vx tg iter : Expr} {ifs : List Expr} {scope : Scope} {own : List (Str × Nat)} {wi : TI} {g : TG} {tt : TT} {tk tv : TE}
    (calm : X.calm = true) (nd : X.N.Nodup) (hy : X.N[i]? = some y) (loc : X.env.scope.names.lookup y = some .local) (sw : swapsWith (.DictComp kx vx [⟨tg, iter, ifs, 0⟩] scope pos) (some (.Name y py)) spos.line X.env = pure true)
    (pi : PI X tg iter wi) (blk : BlkOk X.N X.env.scope scope own) (pg : ∀ (s : Shared) (H : Hp) (C : Addr) (cl : List (Str × Addr)) (fp : List Addr), PG (X.blk s H scope (compEnvC scope cl C X.env) fp) tg g)
    (pt : ∀ (s : Shared) (H : Hp) (C : Addr) (cl : List (Str × Addr)) (fp : List Addr), PTs (X.blk s H scope (compEnvC scope cl C X.env) fp) ifs tt) (pk : ∀ (s : Shared) (H : Hp) (C : Addr) (cl : List (Str × Addr)) (fp : List Addr), PE (X.blk s H scope (compEnvC scope cl C X.env) fp) kx tk)
    (pv : ∀ (s : Shared) (H : Hp) (C : Addr) (cl : List (Str × Addr)) (fp : List Addr), PE (X.blk s H scope (compEnvC scope cl C X.env) fp) vx tv) (plain : ∀ x, foldedSetIterable iter X.env x = pure x) :
    PS X (.Assign [.Name y py] (.DictComp kx vx [⟨tg, iter, ifs, 0⟩] scope pos) spos) (tAsg (tDc wi g tt tk tv (own.map (·.2))) (gName i)) := by
  constructor
  intro pins s σ H Dn inv hyp
  rw [exec_Assign_Name_used _ _ _ _ sw]
  apply wpAny_bind
  apply wpAny_standAt
  apply wpAny_bind
  show wpAny _ X.A (do let _ ← comprehension (.DictComp kx vx [⟨tg, iter, ifs, 0⟩] scope pos) scope X.env (firstIterPos [⟨tg, iter, ifs, 0⟩] pos) newDict false (eval iter X.env) (some (assign (.Name y py) X.env))) _ _ s
  have hyp : tDc wi g tt tk tv (own.map (·.2)) σ H (fun x H1 => gName i x σ H1 Dn.nx) := hyp
  apply wpAny_bind
  refine thn (L2.dc_core (Qf := fun _ t => SP X pins Dn .next t) calm nd inv pi blk pg pt pk pv plain hyp fun d C t k Hd inv' res ns fp => ?_) fun _ t ht => wpAny_pure (wpAny_pure ht)
  show wpAny _ _ (assign (.Name y py) X.env (.ref d)) _ _ _
  apply wpAny_assign_Name
  refine store_ok2 (v := V.ref d) inv' nd hy (.inl loc) rfl (fun u invu ⟨a, sb, ha⟩ => ?_) (.inr loc)
  rcases fp with ⟨q0, q1, q2, q3, q4, q5⟩
  have apart : C ≠ a := fun z => by
    rcases ha with w | w
    · exact q1 (z.trans w)
    · exact q4 y a w z.symm
  exact ⟨k, ns.sameBut sb apart, fun h2 sb2 => ⟨_, Hd, invu.turned (t' := u.toks) (fun b o hb e => (sb2.2 b hb).trans e) q0 q1 q3 q4 q5, res⟩⟩
section
variable {X : Cx} {E : WX} {L : Lp} {m : Mds} {ts : List Nat} {N0 ps0 : List Str} {sc0 : Scope} {kx vx tg iter e : Expr} {ifs : List Expr} {scope : Scope} {own : List (Str × Nat)} {pos p p1 p2 p3 tpos : Pos} {it : Env → Res (List D)} {g : D → Env → Res Env} {c : Env → Res Bool} {fk fv fa fb : Env → Res D} {x : Str} {fs : Env → Res (List D)} {a b : Expr}
theorem jt_dhasnot (hr : RmU X.A) (ha : JE X E m .sh a fa) (hb : JE X E m .sh b fb) (hm : behindInMarks .NotIn b = false := by rfl) : JT X E m (.Compare a [.NotIn] [b] pos) (fB (f2 (dHas true) fa fb)) := jt_cmp (op_dNotIn (by unfold RmU at hr; omega)) opd_dhas ha hb hm
/-- y = {.. for ..} -/
theorem js_setDc (i : Nat) {y : Str} {py spos : Pos} (Sc : FnScope N0 ps0 sc0) (own : List (Str × Nat)) (hi : JI X E m tg iter it)
    (hg : ∀ (s : Shared) (H : Hp) (C : Addr) (cl : List (Str × Addr)) (fp : List Addr), JG (X.blk s H scope (compEnvC scope cl C X.env) fp) m ts tg g) (ht : ∀ (s : Shared) (H : Hp) (C : Addr) (cl : List (Str × Addr)) (fp : List Addr), JTs (X.blk s H scope (compEnvC scope cl C X.env) fp) EF m ifs c)
    (hk : ∀ (s : Shared) (H : Hp) (C : Addr) (cl : List (Str × Addr)) (fp : List Addr), JE (X.blk s H scope (compEnvC scope cl C X.env) fp) EF m .sh kx fk)
    (he : ∀ (s : Shared) (H : Hp) (C : Addr) (cl : List (Str × Addr)) (fp : List Addr), JE (X.blk s H scope (compEnvC scope cl C X.env) fp) EF m .sh vx fv) (hl : i < m.length := by first | decide | simp) (hc : X.calm = true := by rfl) (hy : X.N[i]? = some y := by rfl) (hyl : X.env.scope.names.lookup y = some .local := by rfl)
    (hsw : swapsWith (.DictComp kx vx [⟨tg, iter, ifs, 0⟩] scope pos) (some (.Name y py)) spos.line X.env = pure true := by rfl) (hN0 : X.N = N0 := by rfl) (hsc : X.env.scope = sc0 := by rfl) (ok : blkC N0 sc0 scope own = true := by decide +kernel) (hts : ∀ t ∈ ts, t ∈ own.map (·.2) := by decide)
    (hs : ∀ z, foldedSetIterable iter X.env z = pure z := by intro _; rfl) : JS X E L m (m.set i .dk) (.Assign [.Name y py] (.DictComp kx vx [⟨tg, iter, ifs, 0⟩] scope pos) spos) (fSet i (fDc (own.map (·.2)) it g c fk fv)) := by
  refine ⟨PSimp (ps_setDc (g := tGD X.K X.mg m ts g) (tt := tT X.K X.mg EF m c) (tk := tE X.K X.mg EF m .sh fk) (tv := tE X.K X.mg EF m .sh fv) hc (by rw [hN0]; exact Sc.nd) hy hyl hsw hi.pi (blkOk_by (own := own) (by rw [hN0, hsc]; exact ok)) (fun s H C cl fp => (hg s H C cl fp).pg) (fun s H C cl fp => (ht s H C cl fp).pt) (fun s H C cl fp => (hk s H C cl fp).pe) (fun s H C cl fp => (he s H C cl fp).pe) hs) fun D σ H h => ?_⟩
  obtain ⟨S0, H0, ρ, ⟨S, Fp, st⟩, p⟩ := h
  refine dc_ok hts ⟨S, ρ, st.envM, (lift_post st p).postM fun d v S1 H1 fp s1 o hn hf k => ?_⟩
  refine k _ _ (StF.stM ((st.step s1).set hl o hn (fun a ha => st.1.hh.free (hf a ha)) fun j e' hj ej a ha z => ?_))
  obtain ⟨w, _, o'⟩ := st.2.1.at_ j e' ej
  obtain ⟨_, u, hu⟩ := o'.out ha
  rw [hf a z] at hu
  cases hu
theorem je_dcK (i : Nat) (Sc : FnScope N0 ps0 sc0) (own : List (Str × Nat))
    (hg : ∀ (s : Shared) (H : Hp) (C : Addr) (cl : List (Str × Addr)) (fp : List Addr), JG (X.blk s H scope (compEnvC scope cl C X.env) fp) m ts tg g) (ht : ∀ (s : Shared) (H : Hp) (C : Addr) (cl : List (Str × Addr)) (fp : List Addr), JTs (X.blk s H scope (compEnvC scope cl C X.env) fp) EF m ifs c)
    (hk : ∀ (s : Shared) (H : Hp) (C : Addr) (cl : List (Str × Addr)) (fp : List Addr), JE (X.blk s H scope (compEnvC scope cl C X.env) fp) EF m .sh kx fk)
    (he : ∀ (s : Shared) (H : Hp) (C : Addr) (cl : List (Str × Addr)) (fp : List Addr), JE (X.blk s H scope (compEnvC scope cl C X.env) fp) EF m .sh vx fv) (hmd : mdAt m i = .sh := by rfl) (hN : X.N[i]? = some x := by rfl) (hv : Vis X.env.scope x := by first | exact Or.inl rfl | exact Or.inr (Or.inl rfl) | exact Or.inr (Or.inr rfl))
    (hd : (x == ("__debug__" : Str)) = false := by decide) (hcd : (x == ("__classdict__" : Str)) = false := by decide) (hc : X.calm = true := by rfl) (hN0 : X.N = N0 := by rfl) (hsc : X.env.scope = sc0 := by rfl) (ok : blkC N0 sc0 scope own = true := by decide +kernel) (hts : ∀ t ∈ ts, t ∈ own.map (·.2) := by decide)
    (hs : ∀ y, foldedSetIterable (.Name x p1) X.env y = pure y := by intro _; rfl) : JE X E m .dk (.DictComp kx vx [⟨tg, .Name x p1, ifs, 0⟩] scope pos) (fDc (own.map (·.2)) (fKy i) g c fk fv) := by
  have base := pe_dc (pos := pos) (kx := kx) (vx := vx) (g := tGD X.K X.mg m ts g) (tt := tT X.K X.mg EF m c) (tk := tE X.K X.mg EF m .sh fk) (tv := tE X.K X.mg EF m .sh fv) hc (by rw [hN0]; exact Sc.nd) (pi_keys (tg := tg) (pe_var (pos := p1) hN hv hd hcd)) (blkOk_by (own := own) (by rw [hN0, hsc]; exact ok)) (fun s H C cl fp => (hg s H C cl fp).pg) (fun s H C cl fp => (ht s H C cl fp).pt) (fun s H C cl fp => (hk s H C cl fp).pe) (fun s H C cl fp => (he s H C cl fp).pe) hs
  refine ⟨PEimp (pe_or base (pe_lock base)) fun σ H Q h => ?_⟩
  obtain ⟨S, ρ, hm, hp⟩ := h
  rcases dcK_ok hts hmd hm hp with q | ⟨a, kvs, ha, q⟩
  · exact .inl q
  · exact .inr ⟨a, .dK kvs, ha, trivial, q⟩
def intKs : List Key → Option (List Int)
  | [] => some []
  | .inl i :: ks => (intKs ks).map (i :: ·)
  | _ => none
theorem intKs_ok : ∀ {ks : List Key} {ns : List Int}, intKs ks = some ns → ks = ns.map Sum.inl
  | [], ns, h => by cases h; rfl
  | .inl i :: ks, ns, h => by
    unfold intKs at h
    cases e : intKs ks with
    | none => rw [e] at h; cases h
    | some ms =>
      rw [e] at h
      cases h
      rw [List.map_cons, intKs_ok e]
  | .inr s :: ks, ns, h => by cases h
def sml64 (n : Nat) : Bool := stuck (n < 64)
def dSortK : D → Res D
  | .dic ks _ => match intKs ks with
    | some ns => if sml64 ns.length = true then .ok (.lst ((ns.mergeSort fun a b => decide (a ≤ b)).map D.int)) else .er
    | none => .er
  | _ => .er
theorem sort_one {xs ys : List Int} (p : ys.Perm xs) (h : ys.Pairwise (· ≤ ·)) : ys = xs.mergeSort fun a b => decide (a ≤ b) := by
  refine List.Perm.eq_of_pairwise (le := (· ≤ ·)) (fun a b _ _ h1 h2 => Int.le_antisymm h1 h2) h ?_ (p.trans (List.mergeSort_perm xs _).symm)
  have := List.pairwise_mergeSort (le := fun a b : Int => decide (a ≤ b)) (fun a b c h1 h2 => by simp at *; omega) (fun a b => by simp; omega) xs
  exact this.imp fun h => by simpa using h
theorem je_sortK (hm : X.mg "sorted" = none) (ha : JA X E m [e] fs) (hc : X.calm = true := by rfl) (hg : Gl X "sorted" := by rfl) (he : starEach [e] X.env = (false, eval e X.env) :: starEach [] X.env := by rfl) : JE X E m .ow (.Call (.Name "sorted" p) [e] [] pos) (fOn (on1 dSortK) fs) :=
  je_callB (call_sortedDI hc) (calld1 fun E S H x d Q hs rx hp => by
    cases d with
    | dic ks ds =>
      unfold dSortK at hp
      simp only at hp
      cases ei : intKs ks with
      | none => rw [ei] at hp; exact hp.elim
      | some ns =>
        rw [ei] at hp
        obtain ⟨hz, hp⟩ := Post.of_if hp
        obtain ⟨a, kvs, rfl, ha, e0, rv⟩ := rx.of_dic
        refine ⟨a, kvs, ns, rfl, same_rd hs ha, by rw [← e0, intKs_ok ei], stuck_iff.mp hz, fun ys p pm hs2 hl => ?_⟩
        have e1 := sort_one pm hs2
        rw [← e1] at hp
        exact Post.list (.inr rfl) hp hs (RepL.of_ints ys) hl
    | _ => exact hp.elim) hm ha hg (by decide +kernel) (by decide) (by decide) he (by rfl)
end
end Da
namespace Da
open PySem PySem.Spec L2
end Da
namespace Da
open PySem PySem.Spec L2
def fAug2 (i : Nat) (gi : Int → Int → Int) (fe fj fj2 : Env → Res D) : FS := fun ρ => match ρ[i]? with
  | some (some (.lst xs)) => lift (fj ρ) ρ fun y => match y with
    | .int z => (match ixN xs.length z with
      | some k => (match xs[k]? with
        | some (.lst us) => lift (fj2 ρ) ρ fun y2 => match y2 with
          | .int z2 => (match ixN us.length z2 with
            | some k2 => (match us[k2]? with
              | some (.int a) => lift (fe ρ) ρ fun d => match d with
                | .int b => .ok (.nx (ρ.set i (some (.lst (xs.set k (.lst (us.set k2 (.int (gi a b)))))))))
                | _ => .er
              | _ => .er)
            | none => .er)
          | _ => .er
        | _ => .er)
      | none => .er)
    | _ => .er
  | _ => .er
section
variable {X : Cx} {E : WX} {L : Lp} {m : Mds} {e j j2 : Expr} {pos p1 p2 p4 : Pos} {f fj fj2 : Env → Res D} {x : Str}
theorem js_aug2 (i : Nat) {op : Operator} {gi : Int → Int → Int} (ho : PIp X op (ipI gi)) (he : JE X E m .sh e f) (hj : JE X E m .sh j fj) (hj2 : JE X E m .sh j2 fj2) (hmd : IsTr 2 (mdAt m i) := by first | exact .inl rfl | exact .inr ⟨_, rfl⟩) (hN : X.N[i]? = some x := by rfl) (hv : Vis X.env.scope x := by first | exact Or.inl rfl | exact Or.inr (Or.inl rfl) | exact Or.inr (Or.inr rfl))
    (hd : (x == ("__debug__" : Str)) = false := by decide) (hcd : (x == ("__classdict__" : Str)) = false := by decide) (hsl : PlainIx j := by intro _ _; rfl)
    (ha : ∀ ov iv new, augStore j2 ov iv new = (do holding [new, ov, iv] (setItem ov iv new); release [new, ov, iv] []; pure .next) := by intros; rfl) :
    JS X E L m m (.AugAssign (.Subscript (.Subscript (.Name x p1) j p4) j2 p2) op e pos) (fAug2 i gi f fj fj2) := by
  refine ⟨PSimp (ps_augS (pe_ix ix_seq (pe_var hN hv hd hcd) hj.pe hsl) hj2.pe pget_list he.pe ho set_list ha) fun Dn σ H h => ?_⟩
  obtain ⟨S0, H0, ρ, ⟨S, Fp, st⟩, p⟩ := h
  unfold fAug2 at p
  split at p
  · rename_i xs exs
    obtain ⟨v0, e0, _, ot, _⟩ := st.ownT hmd exs
    obtain ⟨pa, vs, ds, fps, rfl, eds, _⟩ := id ot
    refine ⟨_, e0, S, ρ, st.envM, (lift_post st p).post fun dy vy S2 H2 s2 ry k1 => ?_⟩
    cases dy with
    | int z =>
      cases ry
      have k1 : SPost X.K X.mg E L S0 H0 m (match ixN xs.length z with
        | some k => (match xs[k]? with
          | some (.lst us) => lift (fj2 ρ) ρ fun y2 => match y2 with
            | .int z2 => (match ixN us.length z2 with
              | some k2 => (match us[k2]? with
                | some (.int a) => lift (f ρ) ρ fun d => match d with
                  | .int b => .ok (.nx (ρ.set i (some (.lst (xs.set k (.lst (us.set k2 (.int (gi a b)))))))))
                  | _ => .er
                | _ => .er)
              | none => .er)
            | _ => .er
          | _ => .er)
        | none => .er) Dn := k1
      cases ek : ixN xs.length z with
      | none => rw [ek] at k1; exact k1.elim
      | some k =>
        rw [ek] at k1
        simp only at k1
        split at k1
        · rename_i us eu
          have st2 := st.step s2
          obtain ⟨v1, e1', oa, ot, nd⟩ := st2.ownT hmd exs
          rw [e0] at e1'
          cases e1'
          obtain ⟨pa', vs, ds, fps, eq, eds, ef, sp, hp, hl, hfl, hin⟩ := id ot
          cases eq; cases eds
          have hkl := (ixN_seq ek).2.1
          have fk : fps[k]? = some (fps[k]'(by omega)) := List.getElem?_eq_getElem (by omega)
          have vk : vs[k]? = some (vs[k]'(by omega)) := List.getElem?_eq_getElem (by omega)
          have oc := hin k _ _ _ vk eu fk
          obtain ⟨q, ws, us', gps, eqq, eus, _, _, hqq, hlq, hgl, hiq⟩ := id oc
          cases eus
          have hat : L2.atI vs z = some (V.ref q) := by
            unfold L2.atI
            rw [hl, ek]
            show vs[k]? = _
            rw [vk, eqq]
          refine .inl ⟨pa, vs, z, V.ref q, rfl, rfl, .inl (.inl hp), hat, ?_⟩
          refine ⟨S2, ρ, st2.envM, (lift_post st2 k1).post fun dz vz S3 H3 s3 rz k2 => ?_⟩
          cases dz with
          | int z2 =>
            cases rz
            have k2 : SPost X.K X.mg E L S0 H0 m (match ixN us.length z2 with
              | some k2 => (match us[k2]? with
                | some (.int a) => lift (f ρ) ρ fun d => match d with
                  | .int b => .ok (.nx (ρ.set i (some (.lst (xs.set k (.lst (us.set k2 (.int (gi a b)))))))))
                  | _ => .er
                | _ => .er)
              | none => .er) Dn := k2
            cases ekk : ixN us.length z2 with
            | none => rw [ekk] at k2; exact k2.elim
            | some kk =>
              rw [ekk] at k2
              simp only at k2
              split at k2
              · rename_i a0 ea0
                have hkk := (ixN_seq ekk).2.1
                have st3 := st2.step s3
                obtain ⟨wv, ewv⟩ : ∃ wv, ws[kk]? = some wv := ⟨_, List.getElem?_eq_getElem (by omega)⟩
                obtain ⟨rw_, _⟩ := hiq kk _ _ _ ewv ea0 (List.getElem?_eq_getElem (show kk < gps.length by omega))
                have hat2 : L2.atI ws z2 = some wv := by
                  unfold L2.atI
                  rw [hlq, ekk]
                  exact ewv
                refine ⟨q, ws, z2, _, rfl, rfl, .inl (.inl (s3.hh _ _ hqq)), hat2, S3, ρ, st3.envM, (lift_post st3 k2).post fun dw vw S4 H4 s4 rz2 k3 => ?_⟩
                cases dw with
                | int b0 =>
                  cases rz2
                  cases rw_
                  refine ⟨a0, b0, rfl, rfl, ?_⟩
                  have st4 := st3.step s4
                  have ffi : ∀ a, a ∈ (fps[k]'(by omega)) → a ∈ Fp i := fun a ha => by rw [ef]; exact List.mem_cons_of_mem _ (flat_mem fk ha)
                  have nd2 := nd
                  rw [ef, List.nodup_cons, nd_split fk] at nd2
                  have on : OwnTr X.K X.mg S4 H4 0 [] (.int (gi a0 b0)) (.int (gi a0 b0)) := ⟨.int _, rfl⟩
                  obtain ⟨q', ws', eq', hq', hl', hqf, f', ot', hn', hf'⟩ := ((oc.step s3).step s4).setI nd2.2.1 on List.nodup_nil (fun a ha => (nomatch ha)) hkk
                  obtain rfl : q' = q := by rw [eqq] at eq'; injection eq' with z; exact z.symm
                  obtain ⟨v2, e2', oa2, ot2, _⟩ := st4.ownT hmd exs
                  rw [e0] at e2'
                  cases e2'
                  have k4 : SPost X.K X.mg E L S0 H0 m (.ok (.nx (ρ.set i (some (.lst (xs.set k (.lst (us.set kk (.int (gi a0 b0)))))))))) Dn := k3
                  refine ⟨q', ws', z2, kk, rfl, rfl, hq', by rw [hl']; exact ekk, k4 σ _ ?_⟩
                  exact inner_change (n := 1) (fp := []) st4 hmd exs e0 oa2 ef (s4.out (s3.out sp hp) (s3.hh _ _ hp)) (s4.hh _ _ (s3.hh _ _ hp)) hl hfl (fun j w e f a b c => ((hin j w e f a b c).step s3).step s4) vk fk (fun a ha => upd_ne fun z => ha (by rw [z]; exact hqf)) ot' hn' hf' fun a ha => (nomatch ha)
                | _ => exact k3.elim
              · exact k2.elim
          | _ => exact k2.elim
        · exact k1.elim
    | _ => exact k1.elim
  · exact p.elim
end
end Da
namespace Da
open PySem PySem.Spec PyProof.Rows L2
section
variable {X : Cx} {E : WX} {m : Mds} {e : Expr} {fs : Env → Res (List D)} {p pos : Pos}
theorem cr_or {f : Value} {r1 r2 : List V → Hp → VK → Prop} (h1 : CallR X f r1) (h2 : CallR X f r2) : CallR X f (fun xs H Q => r1 xs H Q ∨ r2 xs H Q) := fun pins s σ H xs us Q I rv h => h.elim (h1 pins s σ H xs us Q I rv) (h2 pins s σ H xs us Q I rv)
def dSumB : D → Res D
  | .tup xs => dSumT (.tup xs)
  | .lst xs => dSum (.lst xs)
  | _ => .er
theorem je_sumB (hm : X.mg "sum" = none) (ha : JA X E m [e] fs) (hc : X.calm = true := by rfl) (hg : Gl X "sum" := by rfl) (he : starEach [e] X.env = (false, eval e X.env) :: starEach [] X.env := by rfl) : JE X E m .sh (.Call (.Name "sum" p) [e] [] pos) (fOn (on1 dSumB) fs) :=
  je_callB (cr_or (cr_sumTp hc) (cr_sum hc)) (calld1 fun E S H x d Q hs rx hp => by
    cases d with
    | tup xs =>
      obtain ⟨a, vs, rfl, ha, rv⟩ := rx.of_tupS
      simp only [dSumB, dSumT] at hp
      split at hp
      · rename_i ns en
        rw [intsD_ok en] at rv
        exact .inl ⟨a, ns, rfl, by rw [← rv.ints]; exact .inl (.inl (hs _ _ ha)), hp.val hs (.int _)⟩
      · exact hp.elim
    | lst xs =>
      obtain ⟨a, vs, rfl, ha, rv⟩ := rx.of_lst
      simp only [dSumB, dSum] at hp
      split at hp
      · rename_i ns en
        rw [intsD_ok en] at rv
        exact .inr ⟨a, ns, rfl, by rw [← rv.ints]; exact .inl (.inl (hs _ _ ha)), hp.val hs (.int _)⟩
      · exact hp.elim
    | _ => exact (show False from hp).elim) hm ha hg (by decide +kernel) (by decide) (by decide) he (by rfl)
end
end Da
namespace Da
open PySem PySem.Spec L2
end Da
namespace Da
open PySem PySem.Spec PyProof.Rows L2
end Da
namespace Da
open PySem PySem.Spec L2
section
variable {α β γ : Type} {e : α → D} {f : β → D} {ρ : Env} {fa fb : Env → Res D}
theorem op_mul {i j : Int} : Rf (dMul (.int i) (.int j)) (mulR i j) D.int := by
  unfold mulR
  split
  · rename_i h; exact dMul_int h
  · trivial
theorem op_div {i j : Int} : Rf (dDiv (.int i) (.int j)) (divR i j) D.int := by
  unfold divR
  split
  · rename_i h
    show (if divOk i j = true then Res.ok (D.int (i.fdiv j)) else .er) = _
    rw [if_pos (show divOk i j = true from stuck_iff.mpr ⟨by omega, h.2⟩), Int.fdiv_eq_ediv_of_nonneg i (by omega)]
  · split
    · rename_i h
      show (if divOk i j = true then Res.ok (D.int (i.fdiv j)) else .er) = _
      have hf : i.fdiv j = -i / -j := by
        have h1 : i.fdiv j = (-i).fdiv (-j) := (Int.neg_fdiv_neg i j).symm
        rw [h1, Int.fdiv_eq_ediv_of_nonneg _ (by omega)]
      rw [if_pos (show divOk i j = true from stuck_iff.mpr ⟨by omega, h.2⟩), hf]
    · trivial
theorem op_mod {i j : Int} : Rf (dMod (.int i) (.int j)) (modR i j) D.int := by
  unfold modR
  split
  · rename_i h; exact dMod_pos h
  · trivial
theorem op_divp {i j : Int} (h : 0 < j) (h9 : j < 18446744073709551616) : dDiv (.int i) (.int j) = .ok (.int (i / j)) := dDiv_64 h h9
theorem op_modp {i j : Int} (h : 0 < j) : dMod (.int i) (.int j) = .ok (.int (i % j)) := dMod_pos h
theorem op_pow {i j : Int} : Rf (dPow (.int i) (.int j)) (powR i j) D.int := by
  unfold powR
  split
  · rename_i h; exact if_pos h
  · trivial
theorem atI_mapN {xs : List α} {i : Int} : atI (xs.map e) i = (atI xs i).map e := by
  unfold atI ixN
  rw [List.length_map]
  split <;> (try split) <;> simp
theorem op_ixL {xs : List α} {i : Int} : Rf (dIx (eL e xs) (.int i)) (ixR xs i) e := by
  unfold ixR
  cases h : atI xs i with
  | some x => exact dIx_lst (by rw [atI_mapN, h]; rfl)
  | none => trivial
theorem op_ixT {xs : List α} {i : Int} : Rf (dIx (eT e xs) (.int i)) (ixR xs i) e := by
  unfold ixR
  cases h : atI xs i with
  | some x => exact dIx_tup (by rw [atI_mapN, h]; rfl)
  | none => trivial
theorem op_ixF {xs : List α} {i : Int} : Rf (dIx (eF e xs) (.int i)) (ixR xs i) e := by
  unfold ixR
  cases h : atI xs i with
  | some x => exact dIx_frl (by rw [atI_mapN, h]; rfl)
  | none => trivial
theorem op_catLL {xs ys : List α} : Rf (dAddL (eL e xs) (eL e ys)) (catR xs ys) (eL e) := by
  unfold catR
  split
  · rename_i h
    show (if szOk ((xs.map e).length + (ys.map e).length) = true then Res.ok (D.lst (xs.map e ++ ys.map e)) else .er) = Res.ok (D.lst ((xs ++ ys).map e))
    rw [List.length_map, List.length_map, h, List.map_append]; rfl
  · trivial
theorem op_rep {xs : List α} {k : Int} : Rf (dRep (eL e xs) (.int k)) (repR xs k) (eL e) := by
  unfold repR
  split
  · rename_i h
    show (if repOk (xs.map e).length k = true then Res.ok (D.lst (List.replicate k.toNat (xs.map e)).flatten) else .er) = Res.ok (D.lst (((List.replicate k.toNat xs).flatten).map e))
    rw [List.length_map, h, List.map_flatten, List.map_replicate]; rfl
  · trivial
theorem op_lenL {xs : List α} : dLen (eL e xs) = .ok (.int xs.length) := by show Res.ok (D.int (xs.map e).length) = _; rw [List.length_map]
theorem op_lenT {xs : List α} : dLen (eT e xs) = .ok (.int xs.length) := by show Res.ok (D.int (xs.map e).length) = _; rw [List.length_map]
theorem op_lenF {xs : List α} : dLen (eF e xs) = .ok (.int xs.length) := by show Res.ok (D.int (xs.map e).length) = _; rw [List.length_map]
theorem op_sumL {xs : List Int} : dSum (eL D.int xs) = .ok (.int xs.sum) := by show (match intsD (xs.map D.int) with | some ns => Res.ok (D.int ns.sum) | none => .er) = _; rw [intsD_map]
theorem op_allL {xs : List Bool} : dAll (eL D.bl xs) = .ok (.bl (xs.all id)) := by show (match boolsD (xs.map D.bl) with | some ns => Res.ok (D.bl (ns.all id)) | none => .er) = _; rw [boolsD_map]
theorem op_sortL {xs : List Int} : dSorted (eL D.int xs) = .ok (eL D.int (xs.mergeSort leI)) := dSorted_lst
theorem op_sortT {xs : List Int} : dSorted (eT D.int xs) = .ok (eL D.int (xs.mergeSort leI)) := dSorted_tup
theorem op_idx {xs : List Int} {k : Int} (ha : fa ρ = .ok (eL D.int xs)) (hb : fb ρ = .ok (.int k)) : Rf (fIdx fa fb ρ) (idxR xs k) D.int := by
  unfold fIdx
  rw [ha]
  show Rf ((fb ρ).bind _) _ _
  rw [hb]
  show Rf (idxI (xs.map D.int) k) _ _
  unfold idxI idxR
  rw [intsD_map]
  dsimp only
  split
  · rename_i h; rfl
  · trivial
theorem op_cutL {xs : List α} {lo hi : Option Int} : dCut (eL e xs) lo hi = .ok (eL e (cutN xs lo hi)) := by
  show Res.ok (D.lst (cutD (xs.map e) lo hi)) = Res.ok (D.lst ((cutN xs lo hi).map e))
  unfold cutD cutN
  rw [List.length_map, List.map_take, List.map_drop]
theorem evCut {f : Env → Res D} {fl fh : Env → Res (Option Int)} {g : D → Option Int → Option Int → Res D} {x z : D} {l h : Option Int} (hf : f ρ = .ok x) (hl : fl ρ = .ok l) (hh : fh ρ = .ok h) (hg : g x l h = .ok z) : fCut g f fl fh ρ = .ok z := by
  unfold fCut
  rw [hf]; show (fl ρ).bind _ = _
  rw [hl]; show (fh ρ).bind _ = _
  rw [hh]; exact hg
theorem evSoI {f : Env → Res D} {i : Int} (hf : f ρ = .ok (.int i)) : fSoI f ρ = .ok (some i) := by unfold fSoI; rw [hf]; rfl
theorem rSoI {f : Env → Res D} {r : Res Int} (hf : Rf (f ρ) r D.int) : Rf (fSoI f ρ) r some := by
  cases r with
  | ok v => exact evSoI hf
  | ex c fs => show fSoI f ρ = _; unfold fSoI; rw [show f ρ = _ from hf]; rfl
  | er => trivial
theorem rf_chk {n : Nat} {m : List D → Res D} {ds : List D} {r : Res α} (h : Rf (m ds) r e) (hl : ds.length = n) : Rf (chk n m ds) r e := by
  unfold chk; rw [if_pos hl]; exact h
theorem ev_chk {n : Nat} {m : List D → Res D} {ds : List D} {d : D} (h : m ds = .ok d) (hl : ds.length = n) : chk n m ds = .ok d := by
  unfold chk; rw [if_pos hl]; exact h
theorem it_L {xs : List α} (h : fa ρ = .ok (eL e xs)) : fL fa ρ = .ok (xs.map e) := evL h rfl
theorem it_T {xs : List α} (h : fa ρ = .ok (eT e xs)) : fL fa ρ = .ok (xs.map e) := evL h rfl
theorem it_F {xs : List α} (h : fa ρ = .ok (eF e xs)) : fL fa ρ = .ok (xs.map e) := evL h rfl
theorem rng_mapI {lo : Int} {n : Nat} : rng lo n = (rngI lo n).map D.int := by unfold rng rngI; rw [List.map_map]; rfl
theorem it_R1 {fs : Env → Res (List D)} {j : Int} (h : fs ρ = .ok [.int j]) : Rf (fR1 fs ρ) (rngR j) (fun xs => xs.map D.int) := by
  unfold fR1
  rw [h]
  show Rf (if rngOk 0 j = true then Res.ok (rng 0 j.toNat) else .er) _ _
  unfold rngR
  split
  · rw [rng_mapI]; rfl
  · trivial
theorem op_listR {j : Int} (h : fa ρ = .ok (.int j)) : Rf (fListR1 fa ρ) (rngLR j) (eL D.int) := by
  unfold fListR1
  rw [h]
  show Rf (if rgnOk 0 j = true then Res.ok (D.lst (rng 0 (j - 0).toNat)) else .er) _ _
  unfold rngLR
  split
  · rw [rng_mapI, Int.sub_zero]; rfl
  · trivial
theorem enum_map : ∀ {xs : List α} {i : Nat}, enumD i (xs.map e) = (enumI i xs).map (eP2 D.int e)
  | [], _ => rfl
  | x :: xs, i => by
    show D.tup [.int (i : Int), e x] :: enumD (i + 1) (xs.map e) = _
    rw [enum_map]
    rfl
theorem it_enL {xs : List α} (h : fa ρ = .ok (eL e xs)) : fEnum (fA fa fA0) ρ = .ok ((enumI 0 xs).map (eP2 D.int e)) := by
  unfold fEnum
  rw [evA h rfl, ← enum_map]
  rfl
theorem it_enT {xs : List α} (h : fa ρ = .ok (eT e xs)) : fEnum (fA fa fA0) ρ = .ok ((enumI 0 xs).map (eP2 D.int e)) := by
  unfold fEnum
  rw [evA h rfl, ← enum_map]
  rfl
end
section
variable {α β γ α' : Type} {ex : α → D} {e : β → D} {vs vs1 : List Nat} {it it1 : Env → Res (List D)} {g g1 : D → Env → Res Env} {c c1 : Env → Res Bool} {f : Env → Res D} {ρ : Env}
theorem lcGo_rf {rc : α → Res Bool} {rf : α → Res β} {E1 : α → Env} (hg : ∀ x, g (ex x) ρ = .ok (E1 x)) (hc : ∀ x, Rf (c (E1 x)) (rc x) (fun b => b)) (hf : ∀ x, Rf (f (E1 x)) (rf x) e) : ∀ xs : List α, match lcR.go rc rf xs with
    | .ok ys => lcGo g c f ρ (xs.map ex) = .ok (ys.map e)
    | .ex _ _ => False
    | .er => True
  | [] => rfl
  | x :: xs => by
    have ih := lcGo_rf hg hc hf xs
    unfold lcR.go
    rw [List.map_cons]
    unfold lcGo
    rw [hg]
    have h1 := hc x
    have h2 := hf x
    cases q : rc x with
    | ok b =>
      rw [q] at h1
      have h1 : c (E1 x) = .ok b := h1
      dsimp only
      rw [h1]
      cases b with
      | true =>
        cases q2 : rf x with
        | ok y =>
          rw [q2] at h2
          have h2 : f (E1 x) = .ok (e y) := h2
          dsimp only
          rw [h2]
          cases q3 : lcR.go rc rf xs with
          | ok ys => rw [q3] at ih; dsimp only at ih ⊢; rw [ih]; rfl
          | ex _ _ => rw [q3] at ih; exact ih.elim
          | er => exact trivial
        | ex _ _ => exact trivial
        | er => exact trivial
      | false => exact ih
    | ex _ _ => exact trivial
    | er => exact trivial
theorem rf_lcp {rc : α → Res Bool} {rf : α → Res β} {xs : List α} (hi : it ρ = .ok (xs.map ex)) (E1 : α → Env) (hg : ∀ x, g (ex x) (wipeD ρ vs) = .ok (E1 x)) (hc : ∀ x, Rf (c (E1 x)) (rc x) (fun b => b)) (hf : ∀ x, Rf (f (E1 x)) (rf x) e) : Rf (fLc vs it g c f ρ) (lcR xs rc rf) (eL e) := by
  unfold fLc lcR
  rw [hi]
  show Rf (if szOk (xs.map ex).length = true then asLst (lcGo g c f (wipeD ρ vs) (xs.map ex)) else .er) _ _
  rw [List.length_map]
  split
  · have := lcGo_rf hg hc hf xs
    cases q : lcR.go rc rf xs with
    | ok ys => rw [q] at this; dsimp only at this; rw [this]; exact rfl
    | ex _ _ => rw [q] at this; exact this.elim
    | er => exact trivial
  · exact trivial
theorem rf_lc {rc : α → Res Bool} {rf : α → Res β} {rxs : Res (List α)} (hi : Rf (it ρ) rxs (fun xs => xs.map ex)) (E1 : α → Env) (hg : ∀ x, g (ex x) (wipeD ρ vs) = .ok (E1 x)) (hc : ∀ x, Rf (c (E1 x)) (rc x) (fun b => b)) (hf : ∀ x, Rf (f (E1 x)) (rf x) e) : Rf (fLc vs it g c f ρ) (rxs.bind fun xs => lcR xs rc rf) (eL e) := by
  cases rxs with
  | ok xs => exact rf_lcp hi E1 hg hc hf
  | ex cn fs =>
    show fLc vs it g c f ρ = _
    unfold fLc
    rw [show it ρ = _ from hi]
    rfl
  | er => exact trivial
end
section
variable {α β γ δ σ : Type} {ex : α → D} {e : β → D} {vs : List Nat} {it : Env → Res (List D)} {g : D → Env → Res Env} {F G : FS} {ρ : Env} {K : Res Fl → Res δ} {o : γ → δ}
def ctlO {σ β : Type} (E : σ → Env) (e : β → D) : Ctl σ β → Fl
  | .go s => .nx (E s)
  | .out s => .bk (E s)
  | .ret v => .rt (e v)
def LoopC {σ β : Type} (E : σ → Env) (e : β → D) (m : Res Fl) (r : Res (Ctl σ β)) : Prop := match r with
  | .ok (.go s') => m = .ok (.nx (E s'))
  | .ok (.out _) => False
  | .ok (.ret v) => m = .ok (.rt (e v))
  | .ex c fs => ∃ ρ, m = .ok (.xc c fs ρ)
  | .er => True
def LoopR {σ : Type} (E : σ → Env) (m : Res Fl) (r : Res σ) : Prop := match r with
  | .ok s' => m = .ok (.nx (E s'))
  | .ex c fs => ∃ ρ, m = .ok (.xc c fs ρ)
  | .er => True
theorem finL_nx {vs : List Nat} {m : Res Fl} {ρ : Env} (h : finL vs m = .ok (.nx ρ)) : fgt vs m = .ok (.nx ρ) ∨ fgt vs m = .ok (.ct ρ) := by
  unfold finL at h
  split at h <;> cases h
  · exact .inl rfl
  · exact .inr rfl
theorem finL_bk {vs : List Nat} {m : Res Fl} {ρ : Env} (h : finL vs m = .ok (.bk ρ)) : fgt vs m = .ok (.bk ρ) := by
  unfold finL at h
  split at h <;> cases h
  rfl
theorem finL_rt {vs : List Nat} {m : Res Fl} {d : D} (h : finL vs m = .ok (.rt d)) : fgt vs m = .ok (.rt d) := by
  unfold finL at h
  split at h <;> cases h
  rfl
theorem finL_ex {vs : List Nat} {m : Res Fl} {c : Str} {fs : List (Str × D)} (h : finL vs m = .ex c fs) : ∃ ρ, fgt vs m = .ok (.xc c fs ρ) := by
  unfold finL at h
  split at h <;> cases h
  exact ⟨_, rfl⟩
theorem finL_end {vs : List Nat} {N : Res γ} {o : γ → Fl} (h : Rf (finL vs (fSeq F fNext ρ)) N o) : Rf (finL vs (F ρ)) N o := t_end h
theorem forGo_C {E : σ → Env} {E1 : σ → α → Env} {f : σ → α → Res (Ctl σ β)} (hg : ∀ s x, g (ex x) (E s) = .ok (E1 s x)) (hb : ∀ s x, Rf (finL vs (fSeq F fNext (E1 s x))) (f s x) (ctlO E e)) : ∀ (xs : List α) (s : σ), LoopC E e (forGo g (fFgt vs F) (xs.map ex) (E s)) (forC f xs s)
  | [], s => rfl
  | x :: xs, s => by
    unfold forC
    rw [List.map_cons]
    unfold forGo
    rw [hg]
    have h := finL_end (hb s x)
    cases q : f s x with
    | ok c =>
      rw [q] at h
      cases c with
      | go s' =>
        have ih := forGo_C hg hb xs s'
        rcases finL_nx h with h | h
        · dsimp only [Res.bind_ok, fFgt]
          rw [h]
          exact ih
        · dsimp only [Res.bind_ok, fFgt]
          rw [h]
          exact ih
      | out s' =>
        dsimp only [Res.bind_ok, fFgt]
        rw [finL_bk h]; exact rfl
      | ret v =>
        dsimp only [Res.bind_ok, fFgt]
        rw [finL_rt h]; exact rfl
    | ex c fs =>
      rw [q] at h
      obtain ⟨ρ1, h⟩ := finL_ex h
      dsimp only [Res.bind_ex, fFgt]
      rw [h]
      exact ⟨ρ1, rfl⟩
    | er => exact trivial
theorem forGo_R {E : σ → Env} {E1 : σ → α → Env} {f : σ → α → Res σ} (hg : ∀ s x, g (ex x) (E s) = .ok (E1 s x)) (hb : ∀ s x, Rf (finL vs (fSeq F fNext (E1 s x))) (f s x) (fun s => .nx (E s))) : ∀ (xs : List α) (s : σ), LoopR E (forGo g (fFgt vs F) (xs.map ex) (E s)) (forR f xs s)
  | [], s => rfl
  | x :: xs, s => by
    unfold forR
    rw [List.map_cons]
    unfold forGo
    rw [hg]
    have h := finL_end (hb s x)
    cases q : f s x with
    | ok s' =>
      rw [q] at h
      have ih := forGo_R hg hb xs s'
      rcases finL_nx h with h | h
      · dsimp only [Res.bind_ok, fFgt]
        rw [h]
        exact ih
      · dsimp only [Res.bind_ok, fFgt]
        rw [h]
        exact ih
    | ex c fs =>
      rw [q] at h
      obtain ⟨ρ1, h⟩ := finL_ex h
      dsimp only [Res.bind_ex, fFgt]
      rw [h]
      exact ⟨ρ1, rfl⟩
    | er => exact trivial
/-- a loop that neither breaks nor returns -/
theorem s_forp {f : σ → α → Res σ} {xs : List α} {s0 : σ} (hi : it ρ = .ok (xs.map ex)) (E : σ → Env) (E1 : σ → α → Env) (h0 : ρ = E s0) (hg : ∀ s x, g (ex x) (E s) = .ok (E1 s x)) (hb : ∀ s x, Rf (finL vs (fSeq F fNext (E1 s x))) (f s x) (fun s => .nx (E s))) : Rf (finS [] (fFor it g (fFgt vs F) ρ)) (forR f xs s0) (fun s => .nx (E s)) := by
  have h := forGo_R hg hb xs s0
  rw [fFor_ap hi]
  cases q : forR f xs s0 with
  | ok s' => rw [q] at h; have h : _ = _ := h; rw [h0, h]; exact rfl
  | ex c fs => rw [q] at h; obtain ⟨ρ1, h⟩ := h; rw [h0, h]; exact rfl
  | er => exact trivial
theorem s_for {f : σ → α → Res σ} {rxs : Res (List α)} {s0 : σ} (hi : Rf (it ρ) rxs (fun xs => xs.map ex)) (E : σ → Env) (E1 : σ → α → Env) (h0 : ρ = E s0) (hg : ∀ s x, g (ex x) (E s) = .ok (E1 s x)) (hb : ∀ s x, Rf (finL vs (fSeq F fNext (E1 s x))) (f s x) (fun s => .nx (E s))) : Rf (finS [] (fFor it g (fFgt vs F) ρ)) (rxs.bind fun xs => forR f xs s0) (fun s => .nx (E s)) := by
  cases rxs with
  | ok xs => exact s_forp hi E E1 h0 hg hb
  | ex c fs =>
    show finS [] (lift (it ρ) ρ _) = _
    rw [show it ρ = _ from hi]
    rfl
  | er => exact trivial
/-- a loop with breaks -/
theorem s_forBp {f : σ → α → Res (Ctl σ Unit)} {xs : List α} {s0 : σ} (hi : it ρ = .ok (xs.map ex)) (E : σ → Env) (E1 : σ → α → Env) (h0 : ρ = E s0) (hg : ∀ s x, g (ex x) (E s) = .ok (E1 s x)) (hb : ∀ s x, Rf (finL vs (fSeq F fNext (E1 s x))) (f s x) (ctlO E eN)) : Rf (finS [] (fFor it g (fFgt vs F) ρ)) ((forC f xs s0).bind ctlS) (fun s => .nx (E s)) := by
  have h := forGo_C hg hb xs s0
  rw [fFor_ap hi]
  cases q : forC f xs s0 with
  | ok c =>
    rw [q] at h
    cases c with
    | go s' => have h : _ = _ := h; rw [h0, h]; exact rfl
    | out s' => exact h.elim
    | ret v => exact trivial
  | ex c fs => rw [q] at h; obtain ⟨ρ1, h⟩ := h; rw [h0, h]; exact rfl
  | er => exact trivial
theorem s_forB {f : σ → α → Res (Ctl σ Unit)} {rxs : Res (List α)} {s0 : σ} (hi : Rf (it ρ) rxs (fun xs => xs.map ex)) (E : σ → Env) (E1 : σ → α → Env) (h0 : ρ = E s0) (hg : ∀ s x, g (ex x) (E s) = .ok (E1 s x)) (hb : ∀ s x, Rf (finL vs (fSeq F fNext (E1 s x))) (f s x) (ctlO E eN)) : Rf (finS [] (fFor it g (fFgt vs F) ρ)) (rxs.bind fun xs => (forC f xs s0).bind ctlS) (fun s => .nx (E s)) := by
  cases rxs with
  | ok xs => exact s_forBp hi E E1 h0 hg hb
  | ex c fs =>
    show finS [] (lift (it ρ) ρ _) = _
    rw [show it ρ = _ from hi]
    rfl
  | er => exact trivial
/-- a loop that may return -/
def ctlK {σ β γ : Type} (k : σ → Res γ) (rk : β → γ) (o : Ctl σ β) : Res γ := match o with
  | .go s => k s
  | .out s => k s
  | .ret v => .ok (rk v)
theorem t_forCp (hK : Fin K) {f : σ → α → Res (Ctl σ β)} {xs : List α} {s0 : σ} {k : σ → Res γ} {rk : β → γ} (hi : it ρ = .ok (xs.map ex)) (E : σ → Env) (E1 : σ → α → Env) (h0 : ρ = E s0) (hg : ∀ s x, g (ex x) (E s) = .ok (E1 s x)) (hb : ∀ s x, Rf (finL vs (fSeq F fNext (E1 s x))) (f s x) (ctlO E e))
    (hk : ∀ s, Rf (K (G (E s))) (k s) o) (hr : ∀ v, K (.ok (.rt (e v))) = .ok (o (rk v))) : Rf (K (fSeq (fFor it g (fFgt vs F)) G ρ)) ((forC f xs s0).bind (ctlK k rk)) o := by
  have h := forGo_C hg hb xs s0
  have e1 : fSeq (fFor it g (fFgt vs F)) G ρ = andThen (forGo g (fFgt vs F) (xs.map ex) (E s0)) G := by
    rw [fSeq_ap, fFor_ap hi, h0]
  rw [e1]
  cases q : forC f xs s0 with
  | ok c =>
    rw [q] at h
    cases c with
    | go s' => have h : _ = _ := h; rw [h]; exact hk s'
    | out s' => exact h.elim
    | ret v => have h : _ = _ := h; rw [h]; exact hr v
  | ex c fs => rw [q] at h; obtain ⟨ρ1, h⟩ := h; rw [h]; exact hK.xc _ _ _
  | er => exact trivial
theorem t_forC (hK : Fin K) {f : σ → α → Res (Ctl σ β)} {rxs : Res (List α)} {s0 : σ} {k : σ → Res γ} {rk : β → γ} (hi : Rf (it ρ) rxs (fun xs => xs.map ex)) (E : σ → Env) (E1 : σ → α → Env) (h0 : ρ = E s0) (hg : ∀ s x, g (ex x) (E s) = .ok (E1 s x)) (hb : ∀ s x, Rf (finL vs (fSeq F fNext (E1 s x))) (f s x) (ctlO E e))
    (hk : ∀ s, Rf (K (G (E s))) (k s) o) (hr : ∀ v, K (.ok (.rt (e v))) = .ok (o (rk v))) : Rf (K (fSeq (fFor it g (fFgt vs F)) G ρ)) (rxs.bind fun xs => (forC f xs s0).bind (ctlK k rk)) o := by
  cases rxs with
  | ok xs => exact t_forCp hK hi E E1 h0 hg hb hk hr
  | ex c fs =>
    have : fSeq (fFor it g (fFgt vs F)) G ρ = .ok (.xc c fs ρ) := by
      show andThen (lift (it ρ) ρ _) G = _
      rw [show it ρ = _ from hi]
      rfl
    rw [this]
    exact hK.xc _ _ _
  | er => exact trivial
theorem whileGo_C {c : Env → Res Bool} {E : σ → Env} {rc : σ → Res Bool} {f : σ → Res (Ctl σ β)} (hc : ∀ s, Rf (c (E s)) (rc s) (fun b => b)) (hb : ∀ s, Rf (finL vs (fSeq F fNext (E s))) (f s) (ctlO E e)) : ∀ (n : Nat) (s : σ), LoopC E e (whileGo c (fFgt vs F) n (E s)) (whileC rc f n s)
  | 0, s => trivial
  | n + 1, s => by
    unfold whileC whileGo
    have h1 := hc s
    cases q1 : rc s with
    | ok b =>
      rw [q1] at h1
      rw [show c (E s) = _ from h1]
      cases b with
      | false => exact rfl
      | true =>
        have h := finL_end (hb s)
        dsimp only [Res.bind_ok, lift_ok]
        rw [if_pos rfl, if_pos rfl]
        cases q : f s with
        | ok c' =>
          rw [q] at h
          cases c' with
          | go s' =>
            have ih := whileGo_C hc hb n s'
            rcases finL_nx h with h | h
            · dsimp only [Res.bind_ok, fFgt]
              rw [h]
              exact ih
            · dsimp only [Res.bind_ok, fFgt]
              rw [h]
              exact ih
          | out s' =>
            dsimp only [Res.bind_ok, fFgt]
            rw [finL_bk h]; exact rfl
          | ret v =>
            dsimp only [Res.bind_ok, fFgt]
            rw [finL_rt h]; exact rfl
        | ex c fs =>
          rw [q] at h
          obtain ⟨ρ1, h⟩ := finL_ex h
          dsimp only [Res.bind_ex, fFgt]
          rw [h]
          exact ⟨ρ1, rfl⟩
        | er => exact trivial
    | ex c' fs =>
      rw [q1] at h1
      rw [show c (E s) = _ from h1]
      exact ⟨_, rfl⟩
    | er => exact trivial
theorem s_while {c : Env → Res Bool} {rc : σ → Res Bool} {f : σ → Res (Ctl σ Unit)} {s0 : σ} (E : σ → Env) (h0 : ρ = E s0) (hc : ∀ s, Rf (c (E s)) (rc s) (fun b => b)) (hb : ∀ s, Rf (finL vs (fSeq F fNext (E s))) (f s) (ctlO E eN)) : Rf (finS [] (fWhile c (fFgt vs F) ρ)) ((whileC rc f FUEL s0).bind ctlS) (fun s => .nx (E s)) := by
  have h := whileGo_C hc hb FUEL s0
  unfold fWhile
  cases q : whileC rc f FUEL s0 with
  | ok c =>
    rw [q] at h
    cases c with
    | go s' => have h : _ = _ := h; rw [h0, h]; exact rfl
    | out s' => exact h.elim
    | ret v => exact trivial
  | ex c fs => rw [q] at h; obtain ⟨ρ1, h⟩ := h; rw [h0, h]; exact rfl
  | er => exact trivial
theorem t_whileC (hK : Fin K) {c : Env → Res Bool} {rc : σ → Res Bool} {f : σ → Res (Ctl σ β)} {s0 : σ} {k : σ → Res γ} {rk : β → γ} (E : σ → Env) (h0 : ρ = E s0) (hc : ∀ s, Rf (c (E s)) (rc s) (fun b => b)) (hb : ∀ s, Rf (finL vs (fSeq F fNext (E s))) (f s) (ctlO E e))
    (hk : ∀ s, Rf (K (G (E s))) (k s) o) (hr : ∀ v, K (.ok (.rt (e v))) = .ok (o (rk v))) : Rf (K (fSeq (fWhile c (fFgt vs F)) G ρ)) ((whileC rc f FUEL s0).bind (ctlK k rk)) o := by
  have h := whileGo_C hc hb FUEL s0
  have e1 : fSeq (fWhile c (fFgt vs F)) G ρ = andThen (whileGo c (fFgt vs F) FUEL (E s0)) G := by rw [fSeq_ap, h0]; rfl
  rw [e1]
  cases q : whileC rc f FUEL s0 with
  | ok c =>
    rw [q] at h
    cases c with
    | go s' => have h : _ = _ := h; rw [h]; exact hk s'
    | out s' => exact h.elim
    | ret v => have h : _ = _ := h; rw [h]; exact hr v
  | ex c fs => rw [q] at h; obtain ⟨ρ1, h⟩ := h; rw [h]; exact hK.xc _ _ _
  | er => exact trivial
end
end Da
namespace Da
open PySem PySem.Spec L2
section
variable {α β γ δ σ : Type} {K : Res Fl → Res δ} {F G : FS} {ρ : Env} {f fa fb fj : Env → Res D} {e : α → D} {i j : Nat} {r : Res α} {N : Res γ} {o : γ → δ} {fs : Env → Res (List D)} {c : Env → Res Bool} {g1 : D → Res D} {g2 : D → D → Res D}
theorem b_iB {m : Res D} {rb : Res Bool} (h : Rf m rb D.bl) : Rf (m.bind asB) rb (fun b => b) := by
  cases rb with
  | ok b => rw [show m = _ from h]; rfl
  | ex c fs => rw [show m = _ from h]; rfl
  | er => trivial
theorem b_iT {m : Res D} {rb : Res Bool} (h : Rf m rb D.bl) : Rf (m.bind trD) rb (fun b => b) := by
  cases rb with
  | ok b => rw [show m = _ from h]; rfl
  | ex c fs => rw [show m = _ from h]; rfl
  | er => trivial
theorem b_iL {m : Res D} {r : Res (List α)} {q : List α → D} (h : Rf m r q) (hq : ∀ xs, asL (q xs) = .ok (xs.map e)) : Rf (m.bind asL) r (fun xs => xs.map e) := by
  cases r with
  | ok b => rw [show m = _ from h]; exact hq b
  | ex c fs => rw [show m = _ from h]; rfl
  | er => trivial
theorem rOrF {rb : Res Bool} {ca cb : Env → Res Bool} (ha : ca ρ = .ok false) (hb : Rf (cb ρ) rb (fun x => x)) : Rf (fOr ca cb ρ) rb (fun x => x) := by unfold fOr; rw [ha]; exact hb
theorem q_f1 (h : Rf ((fa ρ).bind g1) N o') : Rf (f1 g1 fa ρ) N o' := h
theorem q_f2 (h : Rf ((fa ρ).bind fun x => (fb ρ).bind fun y => g2 x y) N o') : Rf (f2 g2 fa fb ρ) N o' := h
theorem q_on {g : List D → Res D} (h : Rf ((fs ρ).bind g) N o') : Rf (fOn g fs ρ) N o' := h
theorem q_B {o' : γ → Bool} (h : Rf ((f ρ).bind asB) N o') : Rf (fB f ρ) N o' := h
theorem q_Tr {o' : γ → Bool} (h : Rf ((f ρ).bind trD) N o') : Rf (fTr f ρ) N o' := h
theorem q_Not {o' : γ → Bool} (h : Rf ((c ρ).bind fun c => .ok (!c)) N o') : Rf (fNot c ρ) N o' := h
theorem q_L {o' : γ → List D} (h : Rf ((f ρ).bind asL) N o') : Rf (fL f ρ) N o' := h
theorem q_R1 {o' : γ → List D} (h : Rf ((fs ρ).bind gRng1) N o') : Rf (fR1 fs ρ) N o' := h
theorem q_En {o' : γ → List D} (h : Rf ((fs ρ).bind dEnum) N o') : Rf (fEnum fs ρ) N o' := h
theorem q_Cut {g : D → Option Int → Option Int → Res D} {fl fh : Env → Res (Option Int)} {o' : γ → D} (h : Rf ((f ρ).bind fun x => (fl ρ).bind fun l => (fh ρ).bind fun h => g x l h) N o') : Rf (fCut g f fl fh ρ) N o' := h
theorem k_R1 {j : Int} : Rf (gRng1 [.int j]) (rngR j) (fun xs => xs.map D.int) := it_R1 (ρ := []) (fs := fun _ => .ok [.int j]) rfl
theorem k_enT {xs : List α} : dEnum [eT e xs] = .ok ((enumI 0 xs).map (eP2 D.int e)) := by rw [← enum_map]; rfl
theorem set_p {d : D} {ρ' : Env} (hf : f ρ = .ok d) (h : ρ.set i (some d) = ρ') : fSet i f ρ = .ok (.nx ρ') := by
  show lift (f ρ) ρ _ = _
  rw [hf, ← h]
  rfl
theorem s_lift {α : Type} {m : Res α} {k : α → Res Fl} {d : α} {N : Res γ} {o : γ → Fl} (h : m = .ok d) (hk : Rf (finS [] (k d)) N o) : Rf (finS [] (lift m ρ k)) N o := by rw [h]; exact hk
theorem s_liftI {α τ : Type} {m : Res α} {k : α → Res Fl} {r : Res τ} {e : τ → α} {N : τ → Res γ} {o : γ → Fl} (h : Rf m r e) (hk : ∀ x, Rf (finS [] (k (e x))) (N x) o) : Rf (finS [] (lift m ρ k)) (r.bind N) o := by
  cases r with
  | ok v => rw [show m = _ from h]; exact hk v
  | ex c fs => rw [show m = _ from h]; exact rfl
  | er => exact trivial
theorem fApp_at {xs : List D} (h : ρ[i]? = some (some (.lst xs))) : fApp i f ρ = lift (f ρ) ρ fun d => if szOk (xs.length + 1) = true then .ok (.nx (ρ.set i (some (.lst (xs ++ [d]))))) else .er := by unfold fApp; rw [h]
theorem k_app {xs : List α} {d : α} (E : List α → Env) (hE : ∀ ys, ρ.set i (some (eL e ys)) = E ys) : Rf (finS [] (if szOk ((xs.map e).length + 1) = true then .ok (.nx (ρ.set i (some (.lst (xs.map e ++ [e d]))))) else .er)) (appR xs d) (fun ys => .nx (E ys)) := by
  unfold appR
  rw [List.length_map]
  split
  · show Res.ok (Fl.nx _) = Res.ok (Fl.nx _)
    rw [← hE, show eL e (xs ++ [d]) = .lst (xs.map e ++ [e d]) by unfold eL; rw [List.map_append]; rfl]
    rfl
  · trivial
theorem s_app {xs : List α} {d : α} (E : List α → Env) (h : ρ[i]? = some (some (eL e xs))) (hf : f ρ = .ok (e d)) (hE : ∀ ys, ρ.set i (some (eL e ys)) = E ys) : Rf (finS [] (fApp i f ρ)) (appR xs d) (fun ys => .nx (E ys)) := by
  rw [fApp_at h]
  exact s_lift hf (k_app E hE)
theorem s_appI {xs : List α} {r : Res α} (E : List α → Env) (h : ρ[i]? = some (some (eL e xs))) (hf : Rf (f ρ) r e) (hE : ∀ ys, ρ.set i (some (eL e ys)) = E ys) : Rf (finS [] (fApp i f ρ)) (r.bind fun d => appR xs d) (fun ys => .nx (E ys)) := by
  rw [fApp_at h]
  exact s_liftI hf fun d => k_app E hE
theorem fSetIx_at {xs : List D} (h : ρ[i]? = some (some (.lst xs))) : fSetIx i f fj ρ = lift (f ρ) ρ fun d => lift (fj ρ) ρ fun j => match j with
    | .int z => (match ixN xs.length z with
      | some k => .ok (.nx (ρ.set i (some (.lst (xs.set k d)))))
      | none => .er)
    | _ => .er := by unfold fSetIx; rw [h]; try rfl
theorem s_setIx {xs : List α} {d : α} {z : Int} (E : List α → Env) (h : ρ[i]? = some (some (eL e xs))) (hf : f ρ = .ok (e d)) (hj : fj ρ = .ok (.int z)) (hE : ∀ ys, ρ.set i (some (eL e ys)) = E ys) : Rf (finS [] (fSetIx i f fj ρ)) (setR xs z d) (fun ys => .nx (E ys)) := by
  rw [fSetIx_at h]
  refine s_lift hf (s_lift hj ?_)
  unfold setR
  dsimp only
  rw [List.length_map]
  cases ixN xs.length z with
  | some k =>
    show Res.ok (Fl.nx _) = Res.ok (Fl.nx _)
    rw [← hE, show eL e (xs.set k d) = .lst ((xs.map e).set k (e d)) by unfold eL; rw [List.map_set]]
    rfl
  | none => trivial
theorem s_setIxI {xs : List α} {r : Res α} {z : Int} (E : List α → Env) (h : ρ[i]? = some (some (eL e xs))) (hf : Rf (f ρ) r e) (hj : fj ρ = .ok (.int z)) (hE : ∀ ys, ρ.set i (some (eL e ys)) = E ys) : Rf (finS [] (fSetIx i f fj ρ)) (r.bind fun d => setR xs z d) (fun ys => .nx (E ys)) := by
  cases r with
  | ok d => exact s_setIx E h hf hj hE
  | ex c fs => rw [fSetIx_at h, show f ρ = _ from hf]; exact rfl
  | er => trivial
/-- pops -/
def RfX {α τ : Type} (m : Res (D × Env)) (r : Res (α × τ)) (e : α → D) (E : τ → Env) : Prop := match r with
  | .ok v => m = .ok (e v.1, E v.2)
  | _ => True
theorem x_pop {xs : List α} {z : Int} (E : List α → Env) (h : ρ[i]? = some (some (eL e xs))) (hf : f ρ = .ok (.int z)) (hE : ∀ ys, ρ.set i (some (eL e ys)) = E ys) : RfX (fPop i f ρ) (popR xs z) e E := by
  unfold fPop
  rw [h, hf]
  unfold popR
  dsimp only [eL]
  rw [List.length_map]
  cases q : ixN xs.length z with
  | some k =>
    dsimp only
    rw [List.getElem?_map]
    cases q2 : xs[k]? with
    | some y =>
      dsimp only [Option.map]
      split
      · rename_i hs
        show Res.ok _ = Res.ok _
        rw [← hE]
        show Res.ok (e y, ρ.set i (some (.lst ((xs.map e).eraseIdx k)))) = Res.ok (e y, ρ.set i (some (.lst ((xs.eraseIdx k).map e))))
        rw [show (xs.map e).eraseIdx k = (xs.eraseIdx k).map e by
          rw [List.eraseIdx_eq_take_drop_succ, List.eraseIdx_eq_take_drop_succ, List.map_append, List.map_take, List.map_drop]]
      · trivial
    | none => trivial
  | none => trivial
theorem x_popI {xs : List α} {rz : Res Int} (E : List α → Env) (h : ρ[i]? = some (some (eL e xs))) (hf : Rf (f ρ) rz D.int) (hE : ∀ ys, ρ.set i (some (eL e ys)) = E ys) : RfX (fPop i f ρ) ((nx rz).bind fun z => popR xs z) e E := by
  cases rz with
  | ok z => exact x_pop E h hf hE
  | _ => trivial
theorem s_appX {τ : Type} {f : Env → Res (D × Env)} {r : Res (α × τ)} {E1 : τ → Env} {xs : List α} (E : List α × τ → Env) (h : ρ[i]? = some (some (eL e xs))) (hf : RfX (f ρ) r e E1) (h1 : ∀ t, (E1 t)[i]? = some (some (eL e xs))) (hE : ∀ ys t, (E1 t).set i (some (eL e ys)) = E (ys, t)) :
    Rf (finS [] (fAppX i f ρ)) ((nx r).bind fun v => (appR xs v.1).bind fun ys => .ok (ys, v.2)) (fun s => .nx (E s)) := by
  cases r with
  | ok v =>
    show Rf _ ((appR xs v.1).bind fun ys => .ok (ys, v.2)) _
    unfold fAppX
    rw [h]
    dsimp only [eL]
    rw [show f ρ = .ok (e v.1, E1 v.2) from hf]
    dsimp only
    rw [h1]
    unfold appR
    dsimp only [eL]
    rw [List.length_map]
    split
    · show Res.ok (Fl.nx _) = Res.ok (Fl.nx _)
      rw [← hE, show eL e (xs ++ [v.1]) = .lst (xs.map e ++ [e v.1]) by unfold eL; rw [List.map_append]; rfl]
      rfl
    · trivial
  | _ => trivial
theorem asg_p {d : D} {ρ' : Env} {g : D → Env → Res Env} (hf : f ρ = .ok d) (h : g d ρ = .ok ρ') : fAsg f g ρ = .ok (.nx ρ') := by
  show lift (f ρ) ρ _ = _
  rw [hf]
  show (match g d ρ with | .ok ρ1 => Res.ok (Fl.nx ρ1) | _ => .er) = _
  rw [h]
theorem s_asg {g : D → Env → Res Env} (E : α → Env) (hf : Rf (f ρ) r e) (hE : ∀ v, g (e v) ρ = .ok (E v)) : Rf (finS [] (fAsg f g ρ)) r (fun s => .nx (E s)) := by
  cases r with
  | ok v => rw [asg_p (show f ρ = .ok (e v) from hf) (hE v)]; exact rfl
  | ex c fs => show finS [] (lift (f ρ) ρ _) = _; rw [show f ρ = _ from hf]; rfl
  | er => trivial
theorem s_fld {c fn : Str} {ns : List Str} {ds : List D} (E : α → Env) (hρ : ρ[i]? = some (some (.obj c ns ds))) (hn : ns.length < 100) (hf : Rf (f ρ) r e) (hE : ∀ v, ρ.set i (some (.obj c (putN fn ns) (putD fn (e v) ns ds))) = E v) : Rf (finS [] (fFld c fn i f ρ)) r (fun s => .nx (E s)) := by
  have h : fFld c fn i f ρ = lift (f ρ) ρ fun d => .ok (.nx (ρ.set i (some (.obj c (putN fn ns) (putD fn d ns ds))))) := by
    unfold fFld
    rw [hρ]
    dsimp only
    rw [if_pos ⟨rfl, hn⟩]
  rw [h]
  cases r with
  | ok v => rw [show f ρ = .ok (e v) from hf]; show finS [] (.ok (.nx _)) = _; rw [hE]; rfl
  | ex c fs => rw [show f ρ = _ from hf]; rfl
  | er => trivial
theorem fld_hit {c f : Str} {ns : List Str} {d : D} {ds : List D} : dFld c f (.obj c (f :: ns) (d :: ds)) = .ok d := by
  unfold dFld
  dsimp only
  rw [if_pos rfl]
  unfold lookF
  rw [if_pos rfl]
theorem fld_skip {c f g : Str} {ns : List Str} {x d : D} {ds : List D} (h : g ≠ f) (k : dFld c f (.obj c ns ds) = .ok d) : dFld c f (.obj c (g :: ns) (x :: ds)) = .ok d := by
  unfold dFld at k ⊢
  dsimp only at k ⊢
  rw [if_pos rfl] at k ⊢
  unfold lookF
  rw [if_neg h]
  exact k
end
class Dat {α : Type} [DecidableEq α] (e : α → D) (k : outParam Nat) : Prop where
  py : ∀ x, ∃ y, D.py (e x) = some y ∧ y.canLay0 = true ∧ y.depth ≤ k
  inj : ∀ x x' y y', D.py (e x) = some y → D.py (e x') = some y' → PyData.eqv y y' = decide (x = x')
section
variable {α β : Type} [DecidableEq α] [DecidableEq β] {e : α → D} {f : β → D} {k l : Nat}
instance : Dat D.int 0 where
  py x := ⟨.int x, rfl, rfl, by simp [PyData.depth]⟩
  inj x x' y y' h h' := by
    cases h; cases h'
    simp only [PyData.eqv]
    by_cases hx : x = x' <;> simp [hx]
instance : Dat D.bl 0 where
  py x := ⟨.bool x, rfl, rfl, by simp [PyData.depth]⟩
  inj x x' y y' h h' := by
    cases h; cases h'
    cases x <;> cases x' <;> rfl
theorem pys_map [Dat e k] : ∀ xs : List α, ∃ ys, D.pys (xs.map e) = some ys ∧ PyData.canLayAll0 ys = true ∧ PyData.depthAll ys ≤ k
  | [] => ⟨[], rfl, rfl, by simp [PyData.depthAll]⟩
  | x :: xs => by
    obtain ⟨y, h1, h2, h3⟩ := Dat.py (e := e) x
    obtain ⟨ys, k1, k2, k3⟩ := pys_map xs
    refine ⟨y :: ys, ?_, ?_, ?_⟩
    · rw [List.map_cons]; unfold D.pys; rw [h1, k1]
    · simp only [PyData.canLayAll0, h2, k2, Bool.and_self]
    · simp only [PyData.depthAll]; omega
theorem pys_inj [Dat e k] : ∀ (xs xs' : List α) (ys ys' : List PyData), D.pys (xs.map e) = some ys → D.pys (xs'.map e) = some ys' → PyData.eqvAll ys ys' = decide (xs = xs')
  | [], [], ys, ys', h, h' => by cases h; cases h'; simp [PyData.eqvAll]
  | [], x' :: xs', ys, ys', h, h' => by
    cases h
    rw [List.map_cons] at h'
    unfold D.pys at h'
    split at h'
    · cases h'; simp [PyData.eqvAll]
    · cases h'
  | x :: xs, [], ys, ys', h, h' => by
    cases h'
    rw [List.map_cons] at h
    unfold D.pys at h
    split at h
    · cases h; simp [PyData.eqvAll]
    · cases h
  | x :: xs, x' :: xs', ys, ys', h, h' => by
    rw [List.map_cons] at h h'
    unfold D.pys at h h'
    split at h
    · rename_i y zs e1 e2
      cases h
      split at h'
      · rename_i y' zs' e1' e2'
        cases h'
        rw [PyData.eqvAll, Dat.inj x x' _ _ e1 e1', pys_inj xs xs' _ _ e2 e2']
        by_cases h1 : x = x' <;> by_cases h2 : xs = xs' <;> simp [h1, h2]
      · cases h'
    · cases h
theorem py_lst' {ds : List D} {ys : List PyData} (h : D.pys ds = some ys) : D.py (.lst ds) = some (.list ys) := by unfold D.py; rw [h]
theorem py_tup' {ds : List D} {ys : List PyData} (h : D.pys ds = some ys) : D.py (.tup ds) = some (.tuple ys) := by unfold D.py; rw [h]
theorem py_lst_of {ds : List D} {y : PyData} (h : D.py (.lst ds) = some y) : ∃ ys, D.pys ds = some ys ∧ y = .list ys := by
  unfold D.py at h
  split at h
  · rename_i ys e; cases h; exact ⟨ys, e, rfl⟩
  · cases h
theorem py_tup_of {ds : List D} {y : PyData} (h : D.py (.tup ds) = some y) : ∃ ys, D.pys ds = some ys ∧ y = .tuple ys := by
  unfold D.py at h
  split at h
  · rename_i ys e; cases h; exact ⟨ys, e, rfl⟩
  · cases h
instance [Dat e k] : Dat (eL e) (k + 1) where
  py xs := by
    obtain ⟨ys, h1, h2, h3⟩ := pys_map (e := e) xs
    refine ⟨.list ys, py_lst' h1, ?_, ?_⟩
    · simp only [PyData.canLay0, h2]
    · simp only [PyData.depth]; omega
  inj x x' y y' h h' := by
    obtain ⟨ys, h1, rfl⟩ := py_lst_of h
    obtain ⟨ys', h1', rfl⟩ := py_lst_of h'
    simp only [PyData.eqv]
    exact pys_inj _ _ _ _ h1 h1'
instance [Dat e k] : Dat (eT e) (k + 1) where
  py xs := by
    obtain ⟨ys, h1, h2, h3⟩ := pys_map (e := e) xs
    refine ⟨.tuple ys, py_tup' h1, ?_, ?_⟩
    · simp only [PyData.canLay0, h2]
    · simp only [PyData.depth]; omega
  inj x x' y y' h h' := by
    obtain ⟨ys, h1, rfl⟩ := py_tup_of h
    obtain ⟨ys', h1', rfl⟩ := py_tup_of h'
    simp only [PyData.eqv]
    exact pys_inj _ _ _ _ h1 h1'
theorem pys2 {a b : D} {y z : PyData} (h1 : D.py a = some y) (h2 : D.py b = some z) : D.pys [a, b] = some [y, z] := by simp [D.pys, h1, h2]
theorem pys2_of {a b : D} {ys : List PyData} (h : D.pys [a, b] = some ys) : ∃ y z, D.py a = some y ∧ D.py b = some z ∧ ys = [y, z] := by
  unfold D.pys at h
  split at h
  · rename_i y zs e1 e2
    unfold D.pys at e2
    split at e2
    · rename_i z ws e3 e4
      cases e4; cases e2; cases h
      exact ⟨y, z, e1, e3, rfl⟩
    · cases e2
  · cases h
instance [Dat e k] [Dat f l] : Dat (eP2 e f) (max k l + 1) where
  py x := by
    obtain ⟨y, h1, h2, h3⟩ := Dat.py (e := e) x.1
    obtain ⟨z, k1, k2, k3⟩ := Dat.py (e := f) x.2
    refine ⟨.tuple [y, z], py_tup' (pys2 h1 k1), ?_, ?_⟩
    · simp only [PyData.canLay0, PyData.canLayAll0, h2, k2, Bool.and_self]
    · simp only [PyData.depth, PyData.depthAll]; omega
  inj x x' y y' h h' := by
    obtain ⟨ys, h1, rfl⟩ := py_tup_of h
    obtain ⟨ys', h1', rfl⟩ := py_tup_of h'
    obtain ⟨a, b, ea, eb, rfl⟩ := pys2_of h1
    obtain ⟨a', b', ea', eb', rfl⟩ := pys2_of h1'
    simp only [PyData.eqv, PyData.eqvAll, Dat.inj _ _ _ _ ea ea', Dat.inj _ _ _ _ eb eb']
    by_cases h1 : x.1 = x'.1 <;> by_cases h2 : x.2 = x'.2 <;> simp [h1, h2, Prod.ext_iff]
instance [Dat e k] : Dat (eP1 e) (k + 1) where
  py x := by
    obtain ⟨y, h1, h2, h3⟩ := Dat.py (e := e) x
    refine ⟨.tuple [y], py_tup' (by simp [D.pys, h1]), ?_, ?_⟩
    · simp only [PyData.canLay0, PyData.canLayAll0, h2, Bool.and_self]
    · simp only [PyData.depth, PyData.depthAll]; omega
  inj x x' y y' h h' := by
    obtain ⟨ys, h1, rfl⟩ := py_tup_of h
    obtain ⟨ys', h1', rfl⟩ := py_tup_of h'
    have q := pys_inj (e := e) [x] [x'] _ _ h1 h1'
    simp only [PyData.eqv]
    rw [q]
    by_cases h1 : x = x' <;> simp [h1]
theorem shp [Dat e k] (hk : k ≤ 64) {x : α} {y : PyData} (h : D.py (e x) = some y) : SeqAt.shaped y = true := by
  obtain ⟨y', h1, h2, h3⟩ := Dat.py (e := e) x
  rw [h] at h1
  cases h1
  unfold SeqAt.shaped
  rw [h2, decide_eq_true (show y.depth ≤ 64 by omega)]
  rfl
theorem eqD_dat [Dat e k] {x x' : α} (hk : k ≤ 64) : eqD (e x) (e x') = .ok (decide (x = x')) := by
  obtain ⟨y, h1, _⟩ := Dat.py (e := e) x
  obtain ⟨y', h1', _⟩ := Dat.py (e := e) x'
  unfold eqD
  rw [h1, h1']
  simp only [shp hk h1, shp hk h1', Bool.and_self, if_true, Dat.inj x x' _ _ h1 h1']
theorem op_eq [Dat e k] {x x' : α} (hk : k ≤ 64 := by decide) : dEq (e x) (e x') = .ok (.bl (decide (x = x'))) := by unfold dEq; rw [eqD_dat hk]; rfl
theorem op_ne [Dat e k] {x x' : α} (hk : k ≤ 64 := by decide) : dNe (e x) (e x') = .ok (.bl (!decide (x = x'))) := by unfold dNe; rw [eqD_dat hk]; rfl
end
theorem isi_of {T : String} {d : D} {b : Bool} (h : isTy T d = .ok b) : dIsi T d = .ok (.bl b) := by unfold dIsi; rw [h]; rfl
theorem isi2_a {T U : String} {d : D} (h : isTy T d = .ok true) : dIsi2 T U d = .ok (.bl true) := by unfold dIsi2; rw [h]; rfl
theorem isi2_b {T U : String} {d : D} {b : Bool} (h : isTy T d = .ok false) (k : isTy U d = .ok b) : dIsi2 T U d = .ok (.bl b) := by unfold dIsi2; rw [h]; show (isTy U d).bind _ = _; rw [k]; rfl
theorem forR_inv {α σ : Type} {f : σ → α → Res σ} {xs : List α} {s : σ} (P : Nat → σ → Prop) (h0 : P 0 s) (hs : ∀ i x s, xs[i]? = some x → P i s → ∃ s', f s x = .ok s' ∧ P (i + 1) s') : ∃ s', forR f xs s = .ok s' ∧ P xs.length s' := by
  suffices h : ∀ (ys : List α) (k : Nat) (s : σ), P k s → (∀ i x, ys[i]? = some x → xs[k + i]? = some x) → k + ys.length = xs.length → ∃ s', forR f ys s = .ok s' ∧ P xs.length s' by
    exact h xs 0 s h0 (fun i x e => by rw [Nat.zero_add]; exact e) (Nat.zero_add _)
  intro ys
  induction ys with
  | nil => intro k s hp _ hl; exact ⟨s, rfl, by rw [← hl]; exact hp⟩
  | cons y ys ih =>
    intro k s hp hx hl
    obtain ⟨s1, e1, p1⟩ := hs k y s (by have := hx 0 y rfl; simpa using this) hp
    obtain ⟨s2, e2, p2⟩ := ih (k + 1) s1 p1 (fun i x e => by
      have := hx (i + 1) x (by simpa using e)
      rw [show k + 1 + i = k + (i + 1) by omega]; exact this) (by rw [List.length_cons] at hl; omega)
    exact ⟨s2, by unfold forR; rw [e1]; exact e2, p2⟩
theorem forC_inv {α σ β : Type} {f : σ → α → Res (Ctl σ β)} {xs : List α} {s : σ} (Q : Ctl σ β → Prop) (P : Nat → σ → Prop) (h0 : P 0 s) (hs : ∀ i x s, xs[i]? = some x → P i s → ∃ o, f s x = .ok o ∧ (match o with
    | .go s' => P (i + 1) s'
    | .out s' => Q (.go s')
    | .ret b => Q (.ret b))) (hd : ∀ s, P xs.length s → Q (.go s)) : ∃ o, forC f xs s = .ok o ∧ Q o := by
  suffices h : ∀ (ys : List α) (k : Nat) (s : σ), P k s → (∀ i x, ys[i]? = some x → xs[k + i]? = some x) → k + ys.length = xs.length → ∃ o, forC f ys s = .ok o ∧ Q o by
    exact h xs 0 s h0 (fun i x e => by rw [Nat.zero_add]; exact e) (Nat.zero_add _)
  intro ys
  induction ys with
  | nil => intro k s hp _ hl; exact ⟨_, rfl, hd s (by rw [← hl]; exact hp)⟩
  | cons y ys ih =>
    intro k s hp hx hl
    obtain ⟨o, e1, p1⟩ := hs k y s (by have := hx 0 y rfl; simpa using this) hp
    cases o with
    | go s1 =>
      obtain ⟨o2, e2, p2⟩ := ih (k + 1) s1 p1 (fun i x e => by
        have := hx (i + 1) x (by simpa using e)
        rw [show k + 1 + i = k + (i + 1) by omega]; exact this) (by rw [List.length_cons] at hl; omega)
      exact ⟨o2, by unfold forC; rw [e1]; exact e2, p2⟩
    | out s1 => exact ⟨.go s1, by unfold forC; rw [e1]; rfl, p1⟩
    | ret b => exact ⟨.ret b, by unfold forC; rw [e1]; rfl, p1⟩
theorem lcR_map {α β : Type} {xs : List α} {f : α → Res β} {g : α → β} (hz : xs.length ≤ 1000000) (h : ∀ x ∈ xs, f x = .ok (g x)) : lcR xs (fun _ => .ok true) f = .ok (xs.map g) := by
  unfold lcR
  rw [if_pos (szOk_yes hz)]
  clear hz
  induction xs with
  | nil => rfl
  | cons x xs ih =>
    unfold lcR.go
    rw [h x List.mem_cons_self, ih fun y hy => h y (List.mem_cons_of_mem _ hy)]
    rfl
theorem lcR_filter {α β : Type} {xs : List α} {c : α → Res Bool} {p : α → Bool} {f : α → Res β} {g : α → β} (hz : xs.length ≤ 1000000) (hc : ∀ x ∈ xs, c x = .ok (p x)) (h : ∀ x ∈ xs, p x = true → f x = .ok (g x)) : lcR xs c f = .ok ((xs.filter p).map g) := by
  unfold lcR
  rw [if_pos (szOk_yes hz)]
  clear hz
  induction xs with
  | nil => rfl
  | cons x xs ih =>
    unfold lcR.go
    rw [hc x List.mem_cons_self, ih (fun y hy => hc y (List.mem_cons_of_mem _ hy)) fun y hy => h y (List.mem_cons_of_mem _ hy), List.filter_cons]
    cases q : p x with
    | true => rw [h x List.mem_cons_self q]; rfl
    | false => rfl
end Da
namespace Da
theorem op_isN {α : Type} {e : α → D} (h : ∀ v, dIsN (e v) = .ok (.bl false)) {x : Option α} : dIsN (eO e x) = .ok (.bl (Option.isNone x)) := by
  cases x with
  | none => rfl
  | some v => exact h v
theorem op_not1 {g : D → Res D} {x : D} {b : Bool} (h : g x = .ok (.bl b)) : dNot1 g x = .ok (.bl (!b)) := by
  unfold dNot1
  rw [h]
  rfl
end Da
namespace Da
open PySem PySem.Spec L2
section
variable {α β γ δ : Type} {K : Res Fl → Res δ} {F G : FS} {ρ : Env} {r : Res γ} {o : γ → δ} {c : Str} {ns : List Str} {fs : Env → Res (List D)} {l : List (Str × Bool)} {i k : Nat}
theorem rf_ex {m : Res β} {e : α → β} {fs : List (Str × D)} (h : m = .ex c fs) : Rf m (.ex c fs : Res α) e := h
theorem t_raise (hK : Fin K) (h : Rf ((fs ρ).bind fun ds => if ds.length = ns.length then (.ex c (ns.zip ds).reverse : Res δ) else .er) r o) : Rf (K (fSeq (fRaise c ns fs) G ρ)) r o := by
  unfold fSeq fRaise
  cases e : fs ρ with
  | ok ds =>
    rw [e] at h
    have h : Rf (if ds.length = ns.length then (.ex c (ns.zip ds).reverse : Res δ) else .er) r o := h
    show Rf (K (match (if ds.length = ns.length then .ok (.xc c (ns.zip ds).reverse ρ) else .er : Res Fl) with | .ok (.nx ρ') => G ρ' | o => o)) r o
    split at h
    · rename_i hl
      rw [if_pos hl]
      show Rf (K (.ok (.xc c (ns.zip ds).reverse ρ))) r o
      rw [hK.xc]
      exact h
    · cases r with
      | ok v => exact nomatch (show (Res.er : Res δ) = _ from h)
      | ex c fs => exact nomatch (show (Res.er : Res δ) = _ from h)
      | er => exact trivial
  | ex c' fs' =>
    rw [e] at h
    show Rf (K (.ok (.xc c' fs' ρ))) r o
    rw [hK.xc]
    exact h
  | er =>
    rw [e] at h
    cases r with
    | ok v => exact nomatch (show (Res.er : Res δ) = _ from h)
    | ex c fs => exact nomatch (show (Res.er : Res δ) = _ from h)
    | er => exact trivial
/-- a clause -/
def tryR (l : List (Str × Bool)) (r : Res γ) (g : Str → List (Str × D) → Res γ) : Res γ := match r with
  | .ex c fs => (match askOf l c with
    | some true => nx (g c fs)
    | some false => .ex c fs
    | none => .er)
  | r => r
@[simp] theorem tryR_ok {v : γ} {g : Str → List (Str × D) → Res γ} : tryR l (.ok v) g = .ok v := rfl
end
def unO {α : Type} : Option α → Res α
  | some v => .ok v
  | none => .er
@[simp] theorem unO_some {α : Type} {v : α} : unO (some v) = .ok v := rfl
theorem rf_unO {α : Type} {m : Res D} {e : α → D} {x : Option α} (h : m = .ok (eO e x)) : Rf m (unO x) e := by
  cases x with
  | none => exact trivial
  | some v => exact h
theorem rf_unOI {α : Type} {m : Res D} {e : α → D} {r : Res (Option α)} (h : Rf m r (eO e)) : Rf m (r.bind unO) e := by
  cases r with
  | ok x => exact rf_unO h
  | ex c fs => exact h
  | er => exact trivial
instance : Dat (eO D.int) 0 where
  py x := by
    cases x with
    | none => exact ⟨.none, rfl, rfl, by simp [PyData.depth]⟩
    | some v => exact ⟨.int v, rfl, rfl, by simp [PyData.depth]⟩
  inj x x' y y' h h' := by
    cases x with
    | none =>
      cases h
      cases x' with
      | none => cases h'; simp [PyData.eqv]
      | some v => cases h'; simp [PyData.eqv]
    | some u =>
      cases h
      cases x' with
      | none => cases h'; simp [PyData.eqv]
      | some v =>
        cases h'
        simp [PyData.eqv]
        by_cases h : u = v <;> simp [h]
/-- equality, by the told instance -/
def eqB {α : Type} [DecidableEq α] (x y : α) : Bool := decide (x = y)
/-- by cases of what may be None -/
def optC {τ γ : Type} (x : Option τ) (n : Res γ) (f : τ → Res γ) : Res γ := match x with
  | none => n
  | some y => f y
@[simp] theorem optC_none {τ γ : Type} {n : Res γ} {f : τ → Res γ} : optC none n f = n := rfl
@[simp] theorem optC_some {τ γ : Type} {y : τ} {n : Res γ} {f : τ → Res γ} : optC (some y) n f = f y := rfl
theorem t_ifC {τ δ γ : Type} {K : Res Fl → Res δ} {F : FS} {o : γ → δ} {N : Res γ} {x : Option τ} {n2 : τ → Res γ} (E : Option τ → Env) (h1 : Rf (K (F (E none))) N o) (h2 : ∀ y, Rf (K (F (E (some y)))) (n2 y) o) : Rf (K (F (E x))) (optC x N n2) o := by
  cases x with
  | none => exact h1
  | some y => exact h2 y
end Da
namespace Da
open PySem PySem.Spec L2
def set2R {α : Type} (xs : List (List α)) (z z2 : Int) (d : α) : Res (List (List α)) := match ixN xs.length z with
  | some k => (match xs[k]? with
    | some us => (match ixN us.length z2 with
      | some k2 => .ok (xs.set k (us.set k2 d))
      | none => .er)
    | none => .er)
  | none => .er
section
variable {α β γ δ σ τ : Type} {K : Res Fl → Res δ} {F G : FS} {Fk : Nat → FS} {ρ : Env} {f fa fb fj fj2 : Env → Res D} {e : α → D} {i j x y k : Nat} {r : Res α} {N : Res γ} {o : γ → δ}
theorem s_set2 {xs : List (List α)} {rj rj2 : Res Int} (E : List (List α) → Env) (h : ρ[i]? = some (some (eL (eL e) xs))) (hf : Rf (f ρ) r e) (hj : Rf (fj ρ) rj D.int) (hj2 : Rf (fj2 ρ) rj2 D.int) (hE : ∀ ys, ρ.set i (some (eL (eL e) ys)) = E ys) :
    Rf (finS [] (fSet2 i f fj fj2 ρ)) (r.bind fun d => rj.bind fun z => (nx rj2).bind fun z2 => set2R xs z z2 d) (fun ys => .nx (E ys)) := by
  unfold fSet2
  rw [h]
  dsimp only [eL]
  refine s_liftI hf fun d => s_liftI hj fun z => ?_
  cases rj2 with
  | ok z2 =>
    show Rf _ (set2R xs z z2 d) _
    unfold set2R
    rw [List.length_map]
    cases hz : ixN xs.length z with
    | none => exact trivial
    | some k =>
      simp only [hz]
      rw [show (xs.map (eL e))[k]? = (xs[k]?).map (eL e) from List.getElem?_map]
      cases hu : xs[k]? with
      | none => exact trivial
      | some us =>
        dsimp only [Option.map, eL]
        rw [show fj2 ρ = .ok (.int z2) from hj2, lift_ok]
        dsimp only
        rw [List.length_map]
        cases hz2 : ixN us.length z2 with
        | none => exact trivial
        | some k2 =>
          simp only [hz2]
          show Res.ok (Fl.nx _) = Res.ok (Fl.nx _)
          rw [← hE, show eL (eL e) (xs.set k (us.set k2 d)) = .lst ((xs.map (fun us => D.lst (us.map e))).set k (.lst ((us.map e).set k2 (e d)))) by
            unfold eL; rw [List.map_set, List.map_set]]
          rfl
  | _ => exact trivial
theorem op_cutLL {xs : List α} {lo hi : Option Int} : dCutL (eL e xs) lo hi = .ok (eL e (cutN xs lo hi)) := by
  show Res.ok (D.lst (cutD (xs.map e) lo hi)) = Res.ok (D.lst ((cutN xs lo hi).map e))
  unfold cutD cutN
  rw [List.length_map, List.map_take, List.map_drop]
theorem evNl {d : D} (h : f ρ = .ok d) (hs : noLst d = true) : fNl f ρ = .ok d := by unfold fNl; rw [h]; show (if noLst d = true then _ else _) = _; rw [hs]; rfl
theorem rNl (h : Rf (f ρ) r e) (hs : ∀ x, noLst (e x) = true) : Rf (fNl f ρ) (nx r) e := by
  cases r with
  | ok v => exact evNl h (hs v)
  | _ => exact trivial
theorem nl_list {e : α → D} (h : ∀ x, noLst (e x) = true) : ∀ xs : List α, noLsts (xs.map e) = true
  | [] => by unfold noLsts; rfl
  | x :: xs => by rw [List.map_cons]; unfold noLsts; rw [h, nl_list h xs]; rfl
theorem nl_int (x : Int) : noLst (D.int x) = true := by unfold noLst; rfl
theorem nl_T {e : α → D} (h : ∀ x, noLst (e x) = true) (xs : List α) : noLst (eT e xs) = true := by show noLst (.tup _) = true; unfold noLst; exact nl_list h xs
variable {ex : α → D} {eb : β → D} {it : Env → Res (List D)} {g : D → Env → Res Env} {fx : Env → Res (D × Env)} {vs : List Nat}
end
end Da
namespace Da
open PySem PySem.Spec L2
def eDk {κ α : Type} (kf : κ → Key) (e : α → D) : List (κ × α) → D := fun xs => .dic (xs.map fun p => kf p.1) (xs.map fun p => e p.2)
def kI : Int → Key := Sum.inl
def dlookN {κ α : Type} [DecidableEq κ] : List (κ × α) → κ → Option α
  | [], _ => none
  | p :: xs, k => if p.1 = k then some p.2 else dlookN xs k
def dputN {κ α : Type} [DecidableEq κ] (xs : List (κ × α)) (k : κ) (v : α) : List (κ × α) := if (xs.any fun p => decide (p.1 = k)) = true then xs.map (fun p => if p.1 = k then (p.1, v) else p) else xs ++ [(k, v)]
def dgetN {κ α : Type} [DecidableEq κ] (xs : List (κ × α)) (k : κ) : Res α := match dlookN xs k with
  | some v => .ok v
  | none => .er
def dhasN {κ α : Type} [DecidableEq κ] (xs : List (κ × α)) (k : κ) : Bool := (dlookN xs k).isSome
def dputR {κ α : Type} [DecidableEq κ] (xs : List (κ × α)) (k : κ) (v : α) : Res (List (κ × α)) := if szOk (xs.length + 1) = true then .ok (dputN xs k v) else .er
def dcR {ι κ α : Type} [DecidableEq κ] (xs : List ι) (c : ι → Res Bool) (fk : ι → Res κ) (fv : ι → Res α) : Res (List (κ × α)) := if szOk xs.length = true then go xs [] else .er
where go : List ι → List (κ × α) → Res (List (κ × α))
  | [], acc => .ok acc
  | x :: xs, acc => (nx (c x)).bind fun b => if b = true then (nx (fk x)).bind fun k => (nx (fv x)).bind fun v => go xs (dputN acc k v) else go xs acc
def Inj {α β : Type} (f : α → β) : Prop := ∀ x y, f x = f y → x = y
theorem inj_kI : Inj kI := fun x y h => by unfold kI at h; injection h
theorem kd_I (x : Int) : keyD (D.int x) = some (kI x) := rfl
section
variable {κ α β γ δ τ ι : Type} [DecidableEq κ] {kf : κ → Key} {kt : κ → List Key} {ek : κ → D} {e : α → D} {xs : List (κ × α)} {k : κ} {ρ : Env} {f fj fa fb : Env → Res D} {i : Nat}
theorem look_N (hi : Inj kf) : ∀ (xs : List (κ × α)) (k : κ), look (xs.map fun p => kf p.1) (xs.map fun p => e p.2) (kf k) = (dlookN xs k).map e
  | [], k => rfl
  | p :: xs, k => by
    show (if kf p.1 = kf k then some (e p.2) else look _ _ _) = _
    unfold dlookN
    by_cases h : p.1 = k
    · rw [if_pos h, if_pos (by rw [h])]; rfl
    · rw [if_neg h, if_neg (fun z => h (hi _ _ z))]; exact look_N hi xs k
theorem any_inj {β : Type} [DecidableEq β] {g : κ → β} (hi : Inj g) (xs : List (κ × α)) (k : κ) : ((xs.map fun p => g p.1).any fun j => decide (j = g k)) = xs.any fun p => decide (p.1 = k) := by
  rw [List.any_map]
  congr 1
  funext p
  show decide (g p.1 = g k) = decide (p.1 = k)
  exact decide_eq_decide.mpr ⟨fun z => hi _ _ z, fun z => by rw [z]⟩
theorem zip_mm {A B C : Type} (f : C → A) (g : C → B) (h : A × B → B) : ∀ xs : List C, ((xs.map f).zip (xs.map g)).map h = xs.map fun c => h (f c, g c)
  | [] => rfl
  | x :: xs => by rw [List.map_cons, List.map_cons, List.zip_cons_cons, List.map_cons, zip_mm f g h xs]; rfl
theorem putK_N (hi : Inj kf) (v : α) : putKs (xs.map fun p => kf p.1) (kf k) = (dputN xs k v).map (fun p => kf p.1) ∧ putVs (xs.map fun p => kf p.1) (xs.map fun p => e p.2) (kf k) (e v) = (dputN xs k v).map (fun p => e p.2) := by
  unfold putKs putVs dputN
  rw [any_inj hi]
  by_cases h : (xs.any fun p => decide (p.1 = k)) = true
  · rw [if_pos h, if_pos h, if_pos h]
    refine ⟨?_, ?_⟩
    · rw [List.map_map]
      refine List.map_congr_left fun p _ => ?_
      show kf p.1 = kf (if p.1 = k then (p.1, v) else p).1
      split <;> rfl
    · rw [zip_mm, List.map_map]
      refine List.map_congr_left fun p _ => ?_
      show (if kf p.1 = kf k then e v else e p.2) = e (if p.1 = k then (p.1, v) else p).2
      by_cases z : p.1 = k
      · rw [if_pos z, if_pos (by rw [z])]
      · rw [if_neg z, if_neg (fun w => z (hi _ _ w))]
  · rw [if_neg h, if_neg h, if_neg h]
    rw [List.map_append, List.map_append]
    exact ⟨rfl, rfl⟩
theorem op_dgetD (hk : ∀ x, keyD (ek x) = some (kf x)) (hi : Inj kf) : Rf (dGetD (eDk kf e xs) (ek k)) (dgetN xs k) e := by
  unfold dgetN
  show Rf (match eDk kf e xs, keyD (ek k) with
    | .dic ks ds, some k => (match look ks ds k with
      | some d => Res.ok d
      | none => .er)
    | _, _ => .er) _ _
  rw [hk]
  show Rf (match look (xs.map fun p => kf p.1) (xs.map fun p => e p.2) (kf k) with
      | some d => Res.ok d
      | none => .er) _ _
  rw [look_N hi]
  cases dlookN xs k with
  | some v => exact rfl
  | none => exact trivial
theorem op_dhasD {neg : Bool} (hk : ∀ x, keyD (ek x) = some (kf x)) (hi : Inj kf) : dHas neg (ek k) (eDk kf e xs) = .ok (.bl (dhasN xs k != neg)) := by
  unfold dhasN
  show (match eDk kf e xs, keyD (ek k) with
    | .dic ks ds, some k => Res.ok (D.bl ((look ks ds k).isSome != neg))
    | _, _ => .er) = _
  rw [hk]
  show Res.ok (D.bl ((look (xs.map fun p => kf p.1) (xs.map fun p => e p.2) (kf k)).isSome != neg)) = _
  rw [look_N hi, Option.isSome_map]
theorem s_putD {r : Res α} {rj : Res κ} (hk : ∀ x, keyD (ek x) = some (kf x)) (hi : Inj kf) (E : List (κ × α) → Env) (h : ρ[i]? = some (some (eDk kf e xs))) (hf : Rf (f ρ) r e) (hj : Rf (fj ρ) rj ek) (hE : ∀ ys, ρ.set i (some (eDk kf e ys)) = E ys) : Rf (finS [] (fPut i f fj ρ)) (r.bind fun d => rj.bind fun k => dputR xs k d) (fun ys => .nx (E ys)) := by
  unfold fPut
  rw [h]
  dsimp only [eDk]
  refine s_liftI hf fun d => s_liftI hj fun k => ?_
  rw [hk]
  dsimp only
  unfold dputR
  rw [List.length_map]
  split
  · show Res.ok (Fl.nx _) = Res.ok (Fl.nx _)
    obtain ⟨p1, p2⟩ := putK_N (xs := xs) (k := k) (e := e) hi d
    rw [← hE, show eDk kf e (dputN xs k d) = .dic ((dputN xs k d).map fun p => kf p.1) ((dputN xs k d).map fun p => e p.2) from rfl, ← p1, ← p2]
    rfl
  · exact trivial
variable {it : Env → Res (List D)} {g : D → Env → Res Env} {c : Env → Res Bool} {fk fv : Env → Res D} {vs : List Nat} {ex : ι → D}
theorem dcGo_rf {rc : ι → Res Bool} {rk : ι → Res κ} {rv : ι → Res α} {E1 : ι → Env} (hK : ∀ x, keyD (ek x) = some (kf x)) (hi : Inj kf) (hg : ∀ x, g (ex x) ρ = .ok (E1 x)) (hc : ∀ x, Rf (c (E1 x)) (rc x) (fun b => b)) (hk : ∀ x, Rf (fk (E1 x)) (rk x) ek) (hv : ∀ x, Rf (fv (E1 x)) (rv x) e) : ∀ (ys : List ι) (acc : List (κ × α)), match dcR.go rc rk rv ys acc with
    | .ok w => dcGo g c fk fv ρ (ys.map ex) (acc.map fun p => kf p.1) (acc.map fun p => e p.2) = .ok (w.map (fun p => kf p.1), w.map (fun p => e p.2))
    | .ex _ _ => False
    | .er => True
  | [], acc => rfl
  | x :: ys, acc => by
    unfold dcR.go
    rw [List.map_cons]
    unfold dcGo
    rw [hg]
    have h1 := hc x
    cases q : rc x with
    | ok b =>
      rw [q] at h1
      have h1 : c (E1 x) = .ok b := h1
      dsimp only
      rw [h1]
      cases b with
      | false => exact dcGo_rf hK hi hg hc hk hv ys acc
      | true =>
        have h2 := hk x
        have h3 := hv x
        cases q2 : rk x with
        | ok k =>
          rw [q2] at h2
          have h2 : fk (E1 x) = .ok (ek k) := h2
          cases q3 : rv x with
          | ok v =>
            rw [q3] at h3
            have h3 : fv (E1 x) = .ok (e v) := h3
            dsimp only
            rw [h2]
            dsimp only
            rw [h3]
            dsimp only
            rw [hK]
            dsimp only
            obtain ⟨p1, p2⟩ := putK_N (xs := acc) (k := k) (e := e) hi v
            rw [p1, p2]
            exact dcGo_rf hK hi hg hc hk hv ys (dputN acc k v)
          | ex _ _ => exact trivial
          | er => exact trivial
        | ex _ _ => exact trivial
        | er => exact trivial
    | ex _ _ => exact trivial
    | er => exact trivial
theorem rf_dcp {rc : ι → Res Bool} {rk : ι → Res κ} {rv : ι → Res α} {ys : List ι} (hK : ∀ x, keyD (ek x) = some (kf x)) (hi : Inj kf) (hit : it ρ = .ok (ys.map ex)) (E1 : ι → Env) (hg : ∀ x, g (ex x) (wipeD ρ vs) = .ok (E1 x)) (hc : ∀ x, Rf (c (E1 x)) (rc x) (fun b => b)) (hk : ∀ x, Rf (fk (E1 x)) (rk x) ek) (hv : ∀ x, Rf (fv (E1 x)) (rv x) e) : Rf (fDc vs it g c fk fv ρ) (dcR ys rc rk rv) (eDk kf e) := by
  unfold fDc dcR
  rw [hit]
  show Rf (if szOk (ys.map ex).length = true then _ else _) _ _
  rw [List.length_map]
  split
  · have := dcGo_rf hK hi hg hc hk hv ys []
    cases q : dcR.go rc rk rv ys [] with
    | ok w => rw [q] at this; have this : dcGo g c fk fv (wipeD ρ vs) (ys.map ex) [] [] = .ok (w.map (fun p => kf p.1), w.map (fun p => e p.2)) := this; rw [this]; exact rfl
    | ex _ _ => rw [q] at this; exact this.elim
    | er => exact trivial
  · exact trivial
end
theorem op_dhasDN {κ α : Type} [DecidableEq κ] {kf : κ → Key} {ek : κ → D} {e : α → D} {xs : List (κ × α)} {k : κ} (hk : ∀ x, keyD (ek x) = some (kf x)) (hi : Inj kf) : dHas true (ek k) (eDk kf e xs) = .ok (.bl (!dhasN xs k)) := by rw [op_dhasD hk hi]; cases dhasN xs k <;> rfl
end Da
namespace Kx
open PySem PySem.Spec L2 Da
section
variable {α κ γ : Type} {ρ : Da.Env} {fa fb fc : Da.Env → Res D} {x y z d : D} {g3 : D → D → D → Res D} {N : Res γ} {o' : γ → D}
theorem op_sumT {xs : List Int} : dSumT (eT D.int xs) = .ok (.int xs.sum) := by show (match intsD (xs.map D.int) with | some ns => Res.ok (D.int ns.sum) | none => .er) = _; rw [intsD_map]
end
end Kx
namespace Kx
open PySem PySem.Spec L2 Da
def mrgN {κ α : Type} [DecidableEq κ] : List (κ × α) → List (κ × α) → List (κ × α)
  | xs, [] => xs
  | xs, p :: ys => mrgN (dputN xs p.1 p.2) ys
def mrgR {κ α : Type} [DecidableEq κ] (xs ys : List (κ × α)) : Res (List (κ × α)) := if szOk (xs.length + ys.length) = true then .ok (mrgN xs ys) else .er
section
variable {α κ : Type} [DecidableEq κ] {ρ : Da.Env} {f : Da.Env → Res D} {i : Nat} {kf : κ → Key} {e : α → D}
theorem mrg_N (hi : Inj kf) : ∀ {ys xs : List (κ × α)}, mrgKs (xs.map fun p => kf p.1) (ys.map fun p => kf p.1) = (mrgN xs ys).map (fun p => kf p.1) ∧ mrgVs (xs.map fun p => kf p.1) (xs.map fun p => e p.2) (ys.map fun p => kf p.1) (ys.map fun p => e p.2) = (mrgN xs ys).map fun p => e p.2
  | [], xs => ⟨rfl, rfl⟩
  | p :: ys, xs => by
    obtain ⟨p1, p2⟩ := putK_N (xs := xs) (k := p.1) (e := e) hi p.2
    obtain ⟨q1, q2⟩ := mrg_N hi (ys := ys) (xs := dputN xs p.1 p.2)
    refine ⟨?_, ?_⟩
    · show mrgKs (putKs (xs.map fun p => kf p.1) (kf p.1)) _ = _
      rw [p1]
      exact q1
    · show mrgVs (putKs (xs.map fun p => kf p.1) (kf p.1)) (putVs (xs.map fun p => kf p.1) (xs.map fun p => e p.2) (kf p.1) (e p.2)) _ _ = _
      rw [p1, p2]
      exact q2
theorem s_updD {xs : List (κ × α)} {r : Res (List (κ × α))} (hi : Inj kf) (E : List (κ × α) → Da.Env) (h : ρ[i]? = some (some (eDk kf e xs))) (hf : Rf (f ρ) r (eDk kf e)) (hE : ∀ ys, ρ.set i (some (eDk kf e ys)) = E ys) : Rf (finS [] (fUpd i f ρ)) (r.bind fun ys => mrgR xs ys) (fun ys => .nx (E ys)) := by
  unfold fUpd
  rw [h]
  dsimp only [eDk]
  refine s_liftI hf fun ys => ?_
  dsimp only [eDk]
  unfold mrgR
  rw [List.length_map, List.length_map]
  split
  · show Res.ok (Fl.nx _) = Res.ok (Fl.nx _)
    obtain ⟨p1, p2⟩ := mrg_N (ys := ys) (xs := xs) (e := e) hi
    rw [p1, p2, ← hE]
    rfl
  · exact trivial
end
section
variable {α : Type} {ρ : Da.Env} {i : Nat} {e : α → D}
theorem it_Ky {xs : List (Int × α)} (h : ρ[i]? = some (some (eDk kI e xs))) : fKy i ρ = .ok ((xs.map fun p => p.1).map D.int) := by
  unfold fKy
  rw [h]
  dsimp only [eDk]
  rw [List.map_map, List.map_map]
  rfl
theorem intKs_map : ∀ xs : List Int, intKs (xs.map kI) = some xs
  | [] => rfl
  | x :: xs => by
    rw [List.map_cons, show kI x = Sum.inl x from rfl]
    unfold intKs
    rw [intKs_map xs]
    rfl
def sortKR (xs : List Int) : Res (List Int) := if sml64 xs.length = true then .ok (xs.mergeSort leI) else .er
theorem op_sortK {xs : List (Int × α)} : Rf (dSortK (eDk kI e xs)) (sortKR (xs.map fun p => p.1)) (eL D.int) := by
  unfold dSortK sortKR
  dsimp only [eDk]
  rw [show (xs.map fun p => kI p.1) = (xs.map fun p => p.1).map kI by rw [List.map_map]; rfl, intKs_map]
  dsimp only
  split
  · exact rfl
  · exact trivial
end
section
variable {α β γ δ : Type} [DecidableEq α] [DecidableEq β] [DecidableEq γ] [DecidableEq δ] {e : α → D} {f : β → D} {g : γ → D} {h : δ → D} {k l m n : Nat}
theorem pys3 {a b c : D} {ys : List PyData} (q : D.pys [a, b, c] = some ys) : ∃ x y z, ys = [x, y, z] ∧ D.py a = some x ∧ D.py b = some y ∧ D.py c = some z := by
  unfold D.pys at q
  split at q
  · rename_i x xs e1 e2
    cases q
    unfold D.pys at e2
    split at e2
    · rename_i y ys e3 e4
      cases e2
      unfold D.pys at e4
      split at e4
      · rename_i z zs e5 e6
        cases e4
        cases e6
        exact ⟨x, y, z, rfl, e1, e3, e5⟩
      · cases e4
    · cases e2
  · cases q
theorem pys4 {a b c d : D} {ys : List PyData} (q : D.pys [a, b, c, d] = some ys) : ∃ x y z w, ys = [x, y, z, w] ∧ D.py a = some x ∧ D.py b = some y ∧ D.py c = some z ∧ D.py d = some w := by
  unfold D.pys at q
  split at q
  · rename_i x xs e1 e2
    cases q
    obtain ⟨y, z, w, rfl, h2, h3, h4⟩ := pys3 e2
    exact ⟨x, y, z, w, rfl, e1, h2, h3, h4⟩
  · cases q
instance [Dat e k] [Dat f l] [Dat g m] [Dat h n] : Dat (eH4 e f g h) (max (max k l) (max m n) + 1) where
  py p := by
    obtain ⟨y1, a1, b1, c1⟩ := Dat.py (e := e) p.1
    obtain ⟨y2, a2, b2, c2⟩ := Dat.py (e := f) p.2.1
    obtain ⟨y3, a3, b3, c3⟩ := Dat.py (e := g) p.2.2.1
    obtain ⟨y4, a4, b4, c4⟩ := Dat.py (e := h) p.2.2.2
    refine ⟨.list [y1, y2, y3, y4], py_lst' ?_, ?_, ?_⟩
    · simp only [D.pys, a1, a2, a3, a4]
    · simp only [PyData.canLay0, PyData.canLayAll0, b1, b2, b3, b4, Bool.and_self]
    · simp only [PyData.depth, PyData.depthAll]; omega
  inj p q y y' u u' := by
    obtain ⟨ys, w, rfl⟩ := py_lst_of u
    obtain ⟨ys', w', rfl⟩ := py_lst_of u'
    obtain ⟨y1, y2, y3, y4, rfl, a1, a2, a3, a4⟩ := pys4 w
    obtain ⟨z1, z2, z3, z4, rfl, b1, b2, b3, b4⟩ := pys4 w'
    simp only [PyData.eqv, PyData.eqvAll, Bool.and_true]
    rw [Dat.inj p.1 q.1 _ _ a1 b1, Dat.inj p.2.1 q.2.1 _ _ a2 b2, Dat.inj p.2.2.1 q.2.2.1 _ _ a3 b3, Dat.inj p.2.2.2 q.2.2.2 _ _ a4 b4]
    obtain ⟨p1, p2, p3, p4⟩ := p
    obtain ⟨q1, q2, q3, q4⟩ := q
    by_cases h1 : p1 = q1 <;> by_cases h2 : p2 = q2 <;> by_cases h3 : p3 = q3 <;> by_cases h4 : p4 = q4 <;> simp [h1, h2, h3, h4]
instance [Dat e k] [Dat f l] [Dat g m] [Dat h n] : Dat (eP4 e f g h) (max (max k l) (max m n) + 1) where
  py p := by
    obtain ⟨y1, a1, b1, c1⟩ := Dat.py (e := e) p.1
    obtain ⟨y2, a2, b2, c2⟩ := Dat.py (e := f) p.2.1
    obtain ⟨y3, a3, b3, c3⟩ := Dat.py (e := g) p.2.2.1
    obtain ⟨y4, a4, b4, c4⟩ := Dat.py (e := h) p.2.2.2
    refine ⟨.tuple [y1, y2, y3, y4], py_tup' ?_, ?_, ?_⟩
    · simp only [D.pys, a1, a2, a3, a4]
    · simp only [PyData.canLay0, PyData.canLayAll0, b1, b2, b3, b4, Bool.and_self]
    · simp only [PyData.depth, PyData.depthAll]; omega
  inj p q y y' u u' := by
    obtain ⟨ys, w, rfl⟩ := py_tup_of u
    obtain ⟨ys', w', rfl⟩ := py_tup_of u'
    obtain ⟨y1, y2, y3, y4, rfl, a1, a2, a3, a4⟩ := pys4 w
    obtain ⟨z1, z2, z3, z4, rfl, b1, b2, b3, b4⟩ := pys4 w'
    simp only [PyData.eqv, PyData.eqvAll, Bool.and_true]
    rw [Dat.inj p.1 q.1 _ _ a1 b1, Dat.inj p.2.1 q.2.1 _ _ a2 b2, Dat.inj p.2.2.1 q.2.2.1 _ _ a3 b3, Dat.inj p.2.2.2 q.2.2.2 _ _ a4 b4]
    obtain ⟨p1, p2, p3, p4⟩ := p
    obtain ⟨q1, q2, q3, q4⟩ := q
    by_cases h1 : p1 = q1 <;> by_cases h2 : p2 = q2 <;> by_cases h3 : p3 = q3 <;> by_cases h4 : p4 = q4 <;> simp [h1, h2, h3, h4]
end
end Kx
namespace Kx
open PySem PySem.Spec L2 Da
def aug2R (xs : List (List Int)) (z z2 : Int) (g : Int → Int) : Res (List (List Int)) := match ixN xs.length z with
  | some k => (match xs[k]? with
    | some us => (match ixN us.length z2 with
      | some k2 => (match us[k2]? with
        | some a => .ok (xs.set k (us.set k2 (g a)))
        | none => .er)
      | none => .er)
    | none => .er)
  | none => .er
section
variable {ρ : Da.Env} {f fj fj2 : Da.Env → Res D} {i : Nat}
theorem s_aug2 {gi : Int → Int → Int} {xs : List (List Int)} {rj rj2 re : Res Int} (E : List (List Int) → Da.Env) (h : ρ[i]? = some (some (eL (eL D.int) xs))) (hf : Rf (f ρ) re D.int) (hj : Rf (fj ρ) rj D.int) (hj2 : Rf (fj2 ρ) rj2 D.int) (hE : ∀ ys, ρ.set i (some (eL (eL D.int) ys)) = E ys) :
    Rf (finS [] (fAug2 i gi f fj fj2 ρ)) (rj.bind fun z => (nx rj2).bind fun z2 => (nx re).bind fun b => aug2R xs z z2 fun a => gi a b) (fun ys => .nx (E ys)) := by
  unfold fAug2
  rw [h]
  dsimp only [eL]
  refine s_liftI hj fun z => ?_
  cases rj2 with
  | ok z2 =>
    cases re with
    | ok b =>
      show Rf _ (aug2R xs z z2 fun a => gi a b) _
      unfold aug2R
      dsimp only
      rw [List.length_map]
      cases hz : ixN xs.length z with
      | none => exact trivial
      | some k =>
        dsimp only
        rw [show (xs.map (eL D.int))[k]? = (xs[k]?).map (eL D.int) from List.getElem?_map]
        cases hu : xs[k]? with
        | none => exact trivial
        | some us =>
          dsimp only [Option.map, eL]
          rw [show fj2 ρ = .ok (.int z2) from hj2, lift_ok]
          dsimp only
          rw [List.length_map]
          cases hz2 : ixN us.length z2 with
          | none => exact trivial
          | some k2 =>
            dsimp only
            rw [List.getElem?_map]
            cases ha : us[k2]? with
            | none => exact trivial
            | some a =>
              dsimp only [Option.map]
              rw [show f ρ = .ok (.int b) from hf, lift_ok]
              show Res.ok (Fl.nx _) = Res.ok (Fl.nx _)
              rw [← hE, show eL (eL D.int) (xs.set k (us.set k2 (gi a b))) = .lst ((xs.map (fun us => D.lst (us.map D.int))).set k (.lst ((us.map D.int).set k2 (.int (gi a b))))) by
                unfold eL; rw [List.map_set, List.map_set]]
              rfl
    | _ => exact trivial
  | _ => exact trivial
end
theorem aug2R_ok {xs : List (List Int)} {z z2 : Int} {g : Int → Int} {us : List Int} {a : Int} (h0 : 0 ≤ z) (h1 : xs[z.toNat]? = some us) (h2 : 0 ≤ z2) (h3 : us[z2.toNat]? = some a) : aug2R xs z z2 g = .ok (xs.set z.toNat (us.set z2.toNat (g a))) := by
  have e1 := (List.getElem?_eq_some_iff.mp h1).1
  have e3 := (List.getElem?_eq_some_iff.mp h3).1
  have ix : ∀ {n : Nat} {k : Int}, 0 ≤ k → k.toNat < n → ixN n k = some k.toNat := fun {n k} h0 h1 => by
    unfold ixN
    rw [if_pos h0, if_pos (by omega)]
  unfold aug2R
  rw [ix h0 e1]
  dsimp only
  rw [h1]
  dsimp only
  rw [ix h2 e3]
  dsimp only
  rw [h3]
def un3R {α : Type} : List α → Res (α × α × α)
  | [a, b, c] => .ok (a, b, c)
  | _ => .er
/-- a conversion that may fail, the data the same -/
def Cvt {α β : Type} (f : α → Res β) (e : α → D) (e' : β → D) : Prop := ∀ x y, f x = .ok y → e x = e' y
section
variable {α β : Type} {m : Res D} {e : α → D} {e' : β → D} {f : α → Res β} {r : Res α}
theorem cvt3 {e : α → D} : Cvt un3R (eT e) (eP3 e e e) := fun x y h => by
  unfold un3R at h
  split at h
  · cases h; rfl
  · cases h
theorem rf_cvt (c : Cvt f e e') (h : Rf m r e) : Rf m (r.bind fun x => nx (f x)) e' := by
  cases r with
  | ok x =>
    show Rf m (nx (f x)) e'
    cases hf : f x with
    | ok y =>
      show m = .ok (e' y)
      rw [show m = _ from h, c x y hf]
    | _ => exact trivial
  | ex c fs => exact h
  | er => exact trivial
/-- nothing in it is None -/
def unTO {α : Type} : List (Option α) → Res (List α)
  | [] => .ok []
  | some x :: xs => (unTO xs).bind fun ys => .ok (x :: ys)
  | none :: _ => .er
def unOTO {α : Type} : Option (List (Option α)) → Res (List α)
  | some xs => unTO xs
  | none => .er
theorem unTO_ok {e : α → D} : ∀ {xs : List (Option α)} {ys : List α}, unTO xs = .ok ys → xs.map (eO e) = ys.map e
  | [], ys, h => by cases h; rfl
  | some x :: xs, ys, h => by
    unfold unTO at h
    cases hm : unTO xs with
    | ok zs =>
      rw [hm] at h
      cases h
      rw [List.map_cons, List.map_cons, unTO_ok hm]
      rfl
    | ex _ _ => rw [hm] at h; cases h
    | er => rw [hm] at h; cases h
  | none :: xs, ys, h => by cases h
theorem cvtTO {e : α → D} : Cvt unTO (eT (eO e)) (eT e) := fun x y h => by
  show D.tup (x.map (eO e)) = D.tup (y.map e)
  rw [unTO_ok h]
theorem cvtOTO {e : α → D} : Cvt unOTO (eO (eT (eO e))) (eT e) := fun x y h => by
  cases x with
  | none => cases h
  | some x => exact cvtTO x y h
theorem op_sumBL {xs : List Int} : dSumB (eL D.int xs) = .ok (.int xs.sum) := op_sumL
theorem op_sumBT {xs : List Int} : dSumB (eT D.int xs) = .ok (.int xs.sum) := op_sumT
end
theorem unTO_some {α : Type} : ∀ {xs : List α}, unTO (xs.map some) = .ok xs
  | [] => rfl
  | x :: xs => by
    rw [List.map_cons]
    unfold unTO
    rw [unTO_some]
    rfl
end Kx
namespace Da
open PySem PySem.Spec L2
section
variable {α β γ δ : Type} {F G R : FS} {ρ : Env} {r : Res γ} {o : γ → δ} {l : List (Str × Bool)} {i k : Nat} {vs : List Nat} {f : Env → Res D} {c : Env → Res Bool}
theorem op_idxI {fa fb : Env → Res D} {ρ : Env} {ra : Res (List Int)} {k : Int} (ha : Rf (fa ρ) ra (eL D.int)) (hb : fb ρ = .ok (.int k)) : Rf (fIdx fa fb ρ) (ra.bind fun xs => idxR xs k) D.int := by
  cases ra with
  | ok v => exact op_idx ha hb
  | ex c fs =>
    show (fa ρ).bind _ = _
    rw [show fa ρ = _ from ha]
    rfl
  | er => exact trivial
end
section
variable {α β γ : Type} [DecidableEq α] [DecidableEq β] [DecidableEq γ] {e : α → D} {f : β → D} {g : γ → D} {k l m : Nat}
instance [Dat e k] [Dat f l] [Dat g m] : Dat (eP3 e f g) (max (max k l) m + 1) where
  py p := by
    obtain ⟨y1, a1, b1, c1⟩ := Dat.py (e := e) p.1
    obtain ⟨y2, a2, b2, c2⟩ := Dat.py (e := f) p.2.1
    obtain ⟨y3, a3, b3, c3⟩ := Dat.py (e := g) p.2.2
    refine ⟨.tuple [y1, y2, y3], py_tup' ?_, ?_, ?_⟩
    · simp only [D.pys, a1, a2, a3]
    · simp only [PyData.canLay0, PyData.canLayAll0, b1, b2, b3, Bool.and_self]
    · simp only [PyData.depth, PyData.depthAll]; omega
  inj p q y y' u u' := by
    obtain ⟨ys, w, rfl⟩ := py_tup_of u
    obtain ⟨ys', w', rfl⟩ := py_tup_of u'
    obtain ⟨y1, y2, y3, rfl, a1, a2, a3⟩ := Kx.pys3 w
    obtain ⟨z1, z2, z3, rfl, b1, b2, b3⟩ := Kx.pys3 w'
    simp only [PyData.eqv, PyData.eqvAll, Bool.and_true]
    rw [Dat.inj p.1 q.1 _ _ a1 b1, Dat.inj p.2.1 q.2.1 _ _ a2 b2, Dat.inj p.2.2 q.2.2 _ _ a3 b3]
    obtain ⟨p1, p2, p3⟩ := p
    obtain ⟨q1, q2, q3⟩ := q
    by_cases h1 : p1 = q1 <;> by_cases h2 : p2 = q2 <;> by_cases h3 : p3 = q3 <;> simp [h1, h2, h3]
end
end Da
namespace Kx
open PySem PySem.Spec L2 Da
def F_law_digits : FS := (fSeq (fSet 2 (fOn gLstD fA0))
    (fSeq (fSet 3 (fOn (on1 dInt) (fA (fV 0) fA0)))
    (fSeq (fIfS (fB (f2 dGe (fV 3) (f2 dPow (fC (.int 10)) (fC (.int 18))))) (fSeq (fSet 3 (f2 dSub (fV 3) (f2 dPow (fC (.int 10)) (fC (.int 18)))))
    (fSeq (fFor (fL (fV 1)) (gN 6) (fFgt [6] (fSeq (fApp 2 (f2 dMod (fOn (on1 dInt) (fA (fV 3) fA0)) (fV 6)))
    (fSet 3 (f2 dDiv (fOn (on1 dInt) (fA (fV 3) fA0)) (fV 6))))))
    (fRet (fV 2)))) fNext)
    (fSeq (fSet 4 (f2 dMod (fOn (on1 dInt) (fA (fV 3) fA0)) (fC (.int 2147483629))))
    (fSeq (fFor (fR1 (fA (fOn (on1 dLen) (fA (fV 1) fA0)) fA0)) (gN 5) (fFgt [5, 7] (fSeq (fSet 4 (f2 dMod (fOn (on1 dInt) (fA (f2 dAdd (f2 dAdd (f2 dMul (fV 4) (fC (.int 48271))) (f2 dMul (fC (.int 974711)) (fV 5))) (fC (.int 12345))) fA0)) (fC (.int 2147483647))))
    (fSeq (fSet 7 (f2 dMod (fOn (on1 dInt) (fA (f2 dMul (fV 4) (f2 dAdd (f2 dDiv (fV 4) (fC (.int 65537))) (fC (.int 3)))) fA0)) (fC (.int 2147483629))))
    (fApp 2 (f2 dMod (f2 dDiv (fV 7) (fC (.int 19))) (f2 dIx (fV 1) (fV 5))))))))
    (fRet (fV 2)))))))
def m_law_digits : List D → Res D := runF 8 .ow F_law_digits
def F_law_cell : FS := (fSeq (fIfS (fB (f2 dLt (fV 1) (fOn (on1 dLen) (fA (fV 0) fA0)))) (fRet (f2 dIx (fV 0) (fV 1))) fNext)
    (fSeq (fSet 2 (fC (.int 17)))
    (fSeq (fFor (fL (fV 0)) (gN 3) (fFgt [3] (fSet 2 (f2 dMod (fOn (on1 dInt) (fA (f2 dAdd (f2 dMul (fV 2) (fC (.int 31))) (f2 dMod (fOn (on1 dInt) (fA (fV 3) fA0)) (fC (.int 1000003)))) fA0)) (fC (.int 1000003))))))
    (fRet (f2 dMod (fOn (on1 dInt) (fA (f2 dMul (f2 dMul (f2 dAdd (fV 2) (fC (.int 7))) (f2 dAdd (fV 1) (fC (.int 3)))) (fC (.int 69621))) fA0)) (fC (.int 2147483647)))))))
def m_law_cell : List D → Res D := runF 4 .sh F_law_cell
def F_law_whole : FS := (fRet (fBv (fAnd (fB (f1 (dIsi "int") (fV 0))) (fB (fBv (fNot (fB (f1 (dIsi "bool") (fV 0)))))))))
def m_law_whole : List D → Res D := runF 1 .sh F_law_whole
def N_law_cell_fi_i (a0 : (List Int)) (a1 : Int) : Res Int :=
  (if (decide (a1 < (a0.length : Int))) = true then (ixR a0 a1) else
  ((forR (σ := Int) (fun x1 x2 => (((((mulR x1 31).bind fun x3 => (Res.ok (x3 + (x2 % 1000003)))).bind fun x4 => (Res.ok x4)).bind fun x5 => (Res.ok (x5 % 1000003))).bind fun x6 =>
  Res.ok x6)) a0 17).bind fun x7 =>
  ((((mulR (x7 + 7) (a1 + 3)).bind fun x8 => (mulR x8 69621)).bind fun x9 => (Res.ok x9)).bind fun x10 => (Res.ok (x10 % 2147483647)))))
theorem n_law_cell_fi_i (a0 : (List Int)) (a1 : Int) : Rf (m_law_cell [(eF D.int) a0, D.int a1]) (N_law_cell_fi_i a0 a1) D.int :=
  n_runF ((t_if (evB (ev2 rfl (evOn (evA rfl rfl) op_lenF) rfl)) (t_retF (q_f2 (b_p rfl (b_p rfl op_ixF))))
  (t_nextS (t_seqp [some ((eF D.int) a0), some (D.int a1), some (D.int 17), none] (set_p rfl rfl) (t_seq fin_F (fun x7 : Int => [some ((eF D.int) a0), some (D.int a1), some (D.int x7), none]) (s_forp (ex := D.int) (s0 := 17) (it_F (e := D.int) (xs := a0) rfl) (fun x1 : Int => [some ((eF D.int) a0), some (D.int a1), some (D.int x1), none]) (fun (x1 : Int) (x2 : Int) => [some ((eF D.int) a0), some (D.int a1), some (D.int x1), some (D.int x2)]) rfl (fun _ _ => rfl) fun x1 x2 =>
  (t_seq fin_L (fun x6 : Int => [some ((eF D.int) a0), some (D.int a1), some (D.int x6), some (D.int x2)]) (s_set (e := D.int) _ (q_f2 (b_i (q_on (a_i (q_f2 (b_i (q_f2 (b_p rfl (b_p rfl op_mul))) fun x3 => (b_p (ev2 rfl rfl (op_modp (by decide))) (rf_ok rfl)))) fun x4 => (a_0 (rf_ok rfl)))) fun x5 => (b_p rfl (rf_ok (op_modp (by decide)))))) fun _ => rfl) fun x6 =>
  (t_next rfl))) fun x7 =>
  (t_end (t_retF (q_f2 (b_i (q_on (a_i (q_f2 (b_i (q_f2 (b_p rfl (b_p rfl op_mul))) fun x8 => (b_p rfl op_mul))) fun x9 => (a_0 (rf_ok rfl)))) fun x10 => (b_p rfl (rf_ok (op_modp (by decide)))))))))))))
def N_law_digits_i_li (a0 : Int) (a1 : (List Int)) : Res (List Int) :=
  (((powR 10 18).bind fun x1 => (Res.ok (decide (x1 ≤ a0)))).bind fun x26 => if x26 = true then (((powR 10 18).bind fun x2 => (Res.ok (a0 - x2))).bind fun x3 =>
  ((forR (σ := ((List Int) × Int)) (fun x4 x5 => (((modR x4.2 x5).bind fun x6 => appR x4.1 x6).bind fun x7 =>
  ((divR x4.2 x5).bind fun x8 =>
  Res.ok (x7, x8)))) a1 ([], x3)).bind fun x9 =>
  (Res.ok x9.1))) else
  (((rngR (a1.length : Int)).bind fun x24 => (forR (σ := ((List Int) × Int)) (fun x10 x11 => ((((((mulR x10.2 48271).bind fun x12 => ((mulR 974711 x11).bind fun x13 => (Res.ok (x12 + x13)))).bind fun x14 => (Res.ok (x14 + 12345))).bind fun x15 => (Res.ok x15)).bind fun x16 => (Res.ok (x16 % 2147483647))).bind fun x17 =>
  ((((mulR x17 ((x17 / 65537) + 3)).bind fun x18 => (Res.ok x18)).bind fun x19 => (Res.ok (x19 % 2147483629))).bind fun x20 =>
  ((((ixR a1 x11).bind fun x21 => (modR (x20 / 19) x21)).bind fun x22 => appR x10.1 x22).bind fun x23 =>
  Res.ok (x23, x17))))) x24 ([], (a0 % 2147483629)))).bind fun x25 =>
  (Res.ok x25.1)))
theorem n_law_digits_i_li (a0 : Int) (a1 : (List Int)) : Rf (m_law_digits [D.int a0, (eL D.int) a1]) (N_law_digits_i_li a0 a1) (eL D.int) :=
  n_runF ((t_seqp [some (D.int a0), some ((eL D.int) a1), some ((eL D.int) []), none, none, none, none, none] (set_p rfl rfl) (t_seqp [some (D.int a0), some ((eL D.int) a1), some ((eL D.int) []), some (D.int a0), none, none, none, none] (set_p rfl rfl) (t_ifI fin_F (q_B (b_iB (q_f2 (b_p rfl (b_i (q_f2 (b_p rfl (b_p rfl op_pow))) fun x1 => (rf_ok rfl)))))) (t_assoc (t_seq fin_F (fun x3 : Int => [some (D.int a0), some ((eL D.int) a1), some ((eL D.int) []), some (D.int x3), none, none, none, none]) (s_set (e := D.int) _ (q_f2 (b_p rfl (b_i (q_f2 (b_p rfl (b_p rfl op_pow))) fun x2 => (rf_ok rfl)))) fun _ => rfl) fun x3 =>
  (t_assoc (t_seq fin_F (fun x9 : ((List Int) × Int) => [some (D.int a0), some ((eL D.int) a1), some ((eL D.int) x9.1), some (D.int x9.2), none, none, none, none]) (s_forp (ex := D.int) (s0 := ([], x3)) (it_L (e := D.int) (xs := a1) rfl) (fun x4 : ((List Int) × Int) => [some (D.int a0), some ((eL D.int) a1), some ((eL D.int) x4.1), some (D.int x4.2), none, none, none, none]) (fun (x4 : ((List Int) × Int)) (x5 : Int) => [some (D.int a0), some ((eL D.int) a1), some ((eL D.int) x4.1), some (D.int x4.2), none, none, some (D.int x5), none]) rfl (fun _ _ => rfl) fun x4 x5 =>
  (t_assoc (t_seq fin_L (fun x7 : (List Int) => [some (D.int a0), some ((eL D.int) a1), some ((eL D.int) x7), some (D.int x4.2), none, none, some (D.int x5), none]) (s_appI (e := D.int) (xs := x4.1) (fun ys : (List Int) => [some (D.int a0), some ((eL D.int) a1), some ((eL D.int) ys), some (D.int x4.2), none, none, some (D.int x5), none]) rfl (q_f2 (b_p rfl (b_p rfl op_mod))) fun _ => rfl) fun x7 =>
  (t_seq fin_L (fun x8 : Int => [some (D.int a0), some ((eL D.int) a1), some ((eL D.int) x7), some (D.int x8), none, none, some (D.int x5), none]) (s_set (e := D.int) _ (q_f2 (b_p rfl (b_p rfl op_div))) fun _ => rfl) fun x8 =>
  (t_next rfl))))) fun x9 =>
  (t_retF (rf_ok (e := (eL D.int)) rfl))))))
  (t_nextS (t_seqp [some (D.int a0), some ((eL D.int) a1), some ((eL D.int) []), some (D.int a0), some (D.int (a0 % 2147483629)), none, none, none] (set_p (ev2 rfl rfl (op_modp (by decide))) rfl) (t_seq fin_F (fun x25 : ((List Int) × Int) => [some (D.int a0), some ((eL D.int) a1), some ((eL D.int) x25.1), some (D.int a0), some (D.int x25.2), none, none, none]) (s_for (ex := D.int) (s0 := ([], (a0 % 2147483629))) (q_R1 (a_p (evOn (evA rfl rfl) op_lenL) (a_0 k_R1))) (fun x10 : ((List Int) × Int) => [some (D.int a0), some ((eL D.int) a1), some ((eL D.int) x10.1), some (D.int a0), some (D.int x10.2), none, none, none]) (fun (x10 : ((List Int) × Int)) (x11 : Int) => [some (D.int a0), some ((eL D.int) a1), some ((eL D.int) x10.1), some (D.int a0), some (D.int x10.2), some (D.int x11), none, none]) rfl (fun _ _ => rfl) fun x10 x11 =>
  (t_assoc (t_seq fin_L (fun x17 : Int => [some (D.int a0), some ((eL D.int) a1), some ((eL D.int) x10.1), some (D.int a0), some (D.int x17), some (D.int x11), none, none]) (s_set (e := D.int) _ (q_f2 (b_i (q_on (a_i (q_f2 (b_i (q_f2 (b_i (q_f2 (b_p rfl (b_p rfl op_mul))) fun x12 => (b_i (q_f2 (b_p rfl (b_p rfl op_mul))) fun x13 => (rf_ok rfl)))) fun x14 => (b_p rfl (rf_ok rfl)))) fun x15 => (a_0 (rf_ok rfl)))) fun x16 => (b_p rfl (rf_ok (op_modp (by decide)))))) fun _ => rfl) fun x17 =>
  (t_assoc (t_seq fin_L (fun x20 : Int => [some (D.int a0), some ((eL D.int) a1), some ((eL D.int) x10.1), some (D.int a0), some (D.int x17), some (D.int x11), none, some (D.int x20)]) (s_set (e := D.int) _ (q_f2 (b_i (q_on (a_i (q_f2 (b_p rfl (b_p (ev2 (ev2 rfl rfl (op_divp (by decide) (by decide))) rfl rfl) op_mul))) fun x18 => (a_0 (rf_ok rfl)))) fun x19 => (b_p rfl (rf_ok (op_modp (by decide)))))) fun _ => rfl) fun x20 =>
  (t_seq fin_L (fun x23 : (List Int) => [some (D.int a0), some ((eL D.int) a1), some ((eL D.int) x23), some (D.int a0), some (D.int x17), some (D.int x11), none, some (D.int x20)]) (s_appI (e := D.int) (xs := x10.1) (fun ys : (List Int) => [some (D.int a0), some ((eL D.int) a1), some ((eL D.int) ys), some (D.int a0), some (D.int x17), some (D.int x11), none, some (D.int x20)]) rfl (q_f2 (b_p (ev2 rfl rfl (op_divp (by decide) (by decide))) (b_i (q_f2 (b_p rfl (b_p rfl op_ixL))) fun x21 => op_mod))) fun _ => rfl) fun x23 =>
  (t_next rfl))))))) fun x25 =>
  (t_end (t_retF (rf_ok (e := (eL D.int)) rfl))))))))))
def N_law_whole_i (a0 : Int) : Res Bool :=
  (Res.ok true)
theorem n_law_whole_i (a0 : Int) : Rf (m_law_whole [D.int a0]) (N_law_whole_i a0) D.bl :=
  n_runF ((t_end (t_retF (rf_ok (e := D.bl) (evBv (evAndT (evB (ev1 rfl (isi_of isTy_int_int))) (evB (evBv (evNot (evB (ev1 rfl (isi_of isTy_bool_int))))))))))))
end Kx
namespace Kx
open PySem PySem.Spec L2 Da
def F_is_number : FS := (fRet (fBv (fAnd (fB (f1 (dIsi "int") (fV 0))) (fB (fBv (fNot (fB (f1 (dIsi "bool") (fV 0)))))))))
def m_is_number : List D → Res D := runF 1 .sh F_is_number
def F_frozen (rec : List D → Res D) : FS := (fSeq (fIfS (fTr (f1 (dIsi2 "list" "tuple") (fV 0))) (fRet (fOn (on1 dTuple) (fA (fLc [1] (fL (fV 0)) (gN 1) fYes (fOn (chk 1 rec) (fA (fV 1) fA0))) fA0))) fNext)
    (fRet (fV 0)))
def r_frozen : Nat → List D → Res D
  | 0 => fun _ => .er
  | n + 1 => runF 2 .sh (F_frozen (r_frozen n))
def m_frozen : List D → Res D := r_frozen 6
def N_frozen_i (a0 : Int) : Res Int :=
  (Res.ok a0)
theorem nr_frozen_i (n : Nat) (a0 : Int) : Rf (r_frozen (n + 1) [D.int a0]) (N_frozen_i a0) D.int :=
  n_runF ((t_ifF (evTr (ev1 rfl (isi2_b isTy_list_int isTy_tuple_int)) rfl) (t_nextS (t_end (t_retF (rf_ok (e := D.int) rfl))))))
end Kx
namespace Kx
open PySem PySem.Spec L2 Da
def N_is_number_i (a0 : Int) : Res Bool :=
  (Res.ok true)
theorem n_is_number_i (a0 : Int) : Rf (m_is_number [D.int a0]) (N_is_number_i a0) D.bl :=
  n_runF ((t_end (t_retF (rf_ok (e := D.bl) (evBv (evAndT (evB (ev1 rfl (isi_of isTy_int_int))) (evB (evBv (evNot (evB (ev1 rfl (isi_of isTy_bool_int))))))))))))
def N_frozen_ti (a0 : (List Int)) : Res (List Int) :=
  ((lcR a0 (fun x1 => Res.ok true) (fun x1 => (N_frozen_i x1))).bind fun x2 => (Res.ok x2))
theorem nr_frozen_ti (n : Nat) (a0 : (List Int)) : Rf (r_frozen (n + 2) [(eT D.int) a0]) (N_frozen_ti a0) (eT D.int) :=
  n_runF ((t_ifT (evTr (ev1 rfl (isi2_b isTy_list_tup isTy_tuple_tup)) rfl) (t_retF (q_on (a_i (rf_lcp (it_T (e := D.int) (xs := a0) rfl) (fun x1 : Int => [some ((eT D.int) a0), some (D.int x1)]) (fun _ => rfl) (fun x1 => (rf_ok (v := true) rfl)) (fun x1 => (q_on (a_p rfl (a_0 (rf_chk (nr_frozen_i (n + 0) x1) rfl)))))) fun x2 => (a_0 (rf_ok rfl)))))))
theorem n_frozen_ti (a0 : (List Int)) : Rf (m_frozen [(eT D.int) a0]) (N_frozen_ti a0) (eT D.int) := nr_frozen_ti 4 a0
end Kx
namespace Kx
open PySem PySem.Spec L2 Da
def N_frozen_li (a0 : (List Int)) : Res (List Int) :=
  ((lcR a0 (fun x1 => Res.ok true) (fun x1 => (N_frozen_i x1))).bind fun x2 => (Res.ok x2))
theorem nr_frozen_li (n : Nat) (a0 : (List Int)) : Rf (r_frozen (n + 2) [(eL D.int) a0]) (N_frozen_li a0) (eT D.int) :=
  n_runF ((t_ifT (evTr (ev1 rfl (isi2_a isTy_list_lst)) rfl) (t_retF (q_on (a_i (rf_lcp (it_L (e := D.int) (xs := a0) rfl) (fun x1 : Int => [some ((eL D.int) a0), some (D.int x1)]) (fun _ => rfl) (fun x1 => (rf_ok (v := true) rfl)) (fun x1 => (q_on (a_p rfl (a_0 (rf_chk (nr_frozen_i (n + 0) x1) rfl)))))) fun x2 => (a_0 (rf_ok rfl)))))))
theorem n_frozen_li (a0 : (List Int)) : Rf (m_frozen [(eL D.int) a0]) (N_frozen_li a0) (eT D.int) := nr_frozen_li 4 a0
def N_frozen_lli (a0 : (List (List Int))) : Res (List (List Int)) :=
  ((lcR a0 (fun x1 => Res.ok true) (fun x1 => (N_frozen_li x1))).bind fun x2 => (Res.ok x2))
theorem nr_frozen_lli (n : Nat) (a0 : (List (List Int))) : Rf (r_frozen (n + 3) [(eL (eL D.int)) a0]) (N_frozen_lli a0) (eT (eT D.int)) :=
  n_runF ((t_ifT (evTr (ev1 rfl (isi2_a isTy_list_lst)) rfl) (t_retF (q_on (a_i (rf_lcp (it_L (e := (eL D.int)) (xs := a0) rfl) (fun x1 : (List Int) => [some ((eL (eL D.int)) a0), some ((eL D.int) x1)]) (fun _ => rfl) (fun x1 => (rf_ok (v := true) rfl)) (fun x1 => (q_on (a_p rfl (a_0 (rf_chk (nr_frozen_li (n + 0) x1) rfl)))))) fun x2 => (a_0 (rf_ok rfl)))))))
theorem n_frozen_lli (a0 : (List (List Int))) : Rf (m_frozen [(eL (eL D.int)) a0]) (N_frozen_lli a0) (eT (eT D.int)) := nr_frozen_lli 3 a0
end Kx
namespace Kx
open PySem PySem.Spec L2 Da
def F_search : FS := (fSeq (fSet 3 (fC (.dic [] [])))
    (fSeq (fSet 4 (fOn gLstD (fA (fV 2) fA0)))
    (fSeq (fSet 5 (fC (.int 0)))
    (fSeq (fWhile (fB (f2 dLt (fV 5) (fSc (fOn (on1 dLen) (fA (fV 4) fA0))))) (fFgt [6, 7] (fSeq (fSet 6 (f2 dIx (fV 4) (fV 5)))
    (fSeq (fAug 5 (dI yes2 fun i j => i + j) (fC (.int 1)))
    (fFor (fL (f2 dIx (fV 0) (fV 6))) (gN 7) (fFgt [7] (fIfS (fNx (fB (f2 (dHas true) (fV 7) (fV 3)))) (fSeq (fPut 3 (fV 6) (fV 7))
    (fSeq (fIfS (fB (f1 dIsN (f2 dIx (fV 1) (fV 7)))) (fRet (fOn gTupD (fA (fV 3) (fA (fV 7) fA0)))) fNext)
    (fApp 4 (f2 dIx (fV 1) (fV 7))))) fNext)))))))
    (fRet (fOn gTupD (fA (fV 3) (fA (fC .non) fA0))))))))
def m_search : List D → Res D := runF 8 .sh F_search
def F_changed_owners : FS := (fSeq (fSet 4 (fDc [6, 8] (fEnum (fA (fV 0) fA0)) (gT (gsC (gN 6) (gsC (gN 8) gs0))) (fB (f1 (dNot1 dIsN) (fV 8))) (fV 8) (fV 6)))
    (fSeq (fSet 5 (fOn (on1 dList) (fA (fV 0) fA0)))
    (fSeq (fSet 6 (fV 3))
    (fSeq (fSet 7 (f2 dGetD (fV 1) (fV 6)))
    (fSeq (fWhile (fB (f2 dNe (fV 7) (fV 2))) (fFgt [] (fSeq (fSetIx 5 (fV 7) (fV 6))
    (fSeq (fSet 6 (f2 dGetD (fV 4) (fV 7)))
    (fSet 7 (f2 dGetD (fV 1) (fV 6)))))))
    (fSeq (fSetIx 5 (fV 2) (fV 6))
    (fRet (fV 5))))))))
def m_changed_owners : List D → Res D := runF 9 .ow F_changed_owners
def F_greatest_owners : FS := (fSeq (fSet 1 (fLc [3] (fL (fV 0)) (gN 3) fYes (fC .non)))
    (fSeq (fFor (fR1 (fA (fOn (on1 dLen) (fA (fV 0) fA0)) fA0)) (gN 2) (fFgt [2, 4, 5] (fSeq (fAsg (fOn (chk 3 m_search) (fA (fV 0) (fA (fV 1) (fA (fV 2) fA0)))) (gT (gsC (gN 4) (gsC (gN 5) gs0))))
    (fFgt [] (fIfS (fB (f1 (dNot1 dIsN) (fV 5))) (fSet 1 (fOn (chk 4 m_changed_owners) (fA (fV 1) (fA (fV 4) (fA (fV 2) (fA (fV 5) fA0)))))) fNext)))))
    (fRet (fV 1))))
def m_greatest_owners : List D → Res D := runF 6 .sh F_greatest_owners
def F_reached_goals : FS := (fSeq (fSet 3 (fC (.dic [] [])))
    (fSeq (fFor (fL (fV 2)) (gN 4) (fFgt [4] (fUpd 3 (f2 dIx (fOn (chk 3 m_search) (fA (fV 0) (fA (fV 1) (fA (fV 4) fA0)))) (fC (.int 0))))))
    (fRet (fV 3))))
def m_reached_goals : List D → Res D := runF 5 .sh F_reached_goals
def F_Matching_init : FS := (fSeq (fFld "Matching" "partners" 0 (fV 1))
    (fSeq (fFld "Matching" "count" 0 (fV 2))
    (fSeq (fFld "Matching" "senders" 0 (fV 3))
    (fFld "Matching" "goals" 0 (fV 4)))))
def m_Matching_init : List D → Res D := runI 5 "Matching" F_Matching_init
def N_search_tti_loi_i (a0 : (List (List Int))) (a1 : (List (Option Int))) (a2 : Int) : Res ((List (Int × (Option Int))) × (Option Int)) :=
  ((whileC (σ := ((List (Int × (Option Int))) × (List (Option Int)) × Int)) (β := ((List (Int × (Option Int))) × (Option Int))) (fun x1 => Res.ok (decide (x1.2.2 < (x1.2.1.length : Int)))) (fun x1 => ((ixR x1.2.1 x1.2.2).bind fun x3 =>
  (((unO x3).bind fun x4 => (ixR a0 x4)).bind fun x15 => ((forC (σ := ((List (Int × (Option Int))) × (List (Option Int)))) (β := ((List (Int × (Option Int))) × (Option Int))) (fun x5 x6 => (if (!dhasN x5.1 x6) = true then (((Res.ok x3).bind fun x7 => (Res.ok x6).bind fun x8 => dputR x5.1 x8 x7).bind fun x9 =>
  (((ixR a1 x6).bind fun x10 => (Res.ok (Option.isNone x10))).bind fun x13 => if x13 = true then Res.ok (.ret (((x9, x6).1), (some ((x9, x6).2)))) else
  (((ixR a1 x6).bind fun x11 => appR x5.2 x11).bind fun x12 =>
  Res.ok (.go (x9, x12))))) else
  Res.ok (.go (x5.1, x5.2)))) x15 (x1.1, x1.2.1)).bind (ctlK (fun x14 => Res.ok (.go (x14.1, x14.2, (x1.2.2 + 1)))) (fun v => Ctl.ret v)))))) FUEL ([], [(some a2)], 0)).bind (ctlK (fun x16 => (Res.ok (((x16.1, ()).1), none))) (fun v => v)))
theorem n_search_tti_loi_i (a0 : (List (List Int))) (a1 : (List (Option Int))) (a2 : Int) : Rf (m_search [(eT (eT D.int)) a0, (eL (eO D.int)) a1, D.int a2]) (N_search_tti_loi_i a0 a1 a2) (eP2 (eDk kI (eO D.int)) (eO D.int)) :=
  n_runF ((t_seqp [some ((eT (eT D.int)) a0), some ((eL (eO D.int)) a1), some (D.int a2), some ((eDk kI (eO D.int)) []), none, none, none, none] (set_p rfl rfl) (t_seqp [some ((eT (eT D.int)) a0), some ((eL (eO D.int)) a1), some (D.int a2), some ((eDk kI (eO D.int)) []), some ((eL (eO D.int)) [(some a2)]), none, none, none] (set_p rfl rfl) (t_seqp [some ((eT (eT D.int)) a0), some ((eL (eO D.int)) a1), some (D.int a2), some ((eDk kI (eO D.int)) []), some ((eL (eO D.int)) [(some a2)]), some (D.int 0), none, none] (set_p rfl rfl) (t_whileC (e := (eP2 (eDk kI (eO D.int)) (eO D.int))) (s0 := ([], [(some a2)], 0)) (rk := (fun v => v)) fin_F (fun x1 : ((List (Int × (Option Int))) × (List (Option Int)) × Int) => [some ((eT (eT D.int)) a0), some ((eL (eO D.int)) a1), some (D.int a2), some ((eDk kI (eO D.int)) x1.1), some ((eL (eO D.int)) x1.2.1), some (D.int x1.2.2), none, none]) rfl (fun x1 => (rf_ok (e := fun b => b) (evB (ev2 rfl (evSc (evOn (evA rfl rfl) op_lenL) rfl) rfl)))) (fun x1 =>
  (t_assoc (t_seq fin_L (fun x3 : (Option Int) => [some ((eT (eT D.int)) a0), some ((eL (eO D.int)) a1), some (D.int a2), some ((eDk kI (eO D.int)) x1.1), some ((eL (eO D.int)) x1.2.1), some (D.int x1.2.2), some ((eO D.int) x3), none]) (s_set (e := (eO D.int)) _ (q_f2 (b_p rfl (b_p rfl op_ixL))) fun _ => rfl) fun x3 =>
  (t_assoc (t_seqp [some ((eT (eT D.int)) a0), some ((eL (eO D.int)) a1), some (D.int a2), some ((eDk kI (eO D.int)) x1.1), some ((eL (eO D.int)) x1.2.1), some (D.int (x1.2.2 + 1)), some ((eO D.int) x3), none] (set_p rfl rfl) (t_forC (ex := D.int) (e := (eP2 (eDk kI (eO D.int)) (eO D.int))) (s0 := (x1.1, x1.2.1)) (rk := (fun v => Ctl.ret v)) fin_L (q_L (b_iL (q := (eT D.int)) (e := D.int) (q_f2 (b_p rfl (b_i (rf_unO rfl) fun x4 => op_ixT))) fun _ => rfl)) (fun x5 : ((List (Int × (Option Int))) × (List (Option Int))) => [some ((eT (eT D.int)) a0), some ((eL (eO D.int)) a1), some (D.int a2), some ((eDk kI (eO D.int)) x5.1), some ((eL (eO D.int)) x5.2), some (D.int (x1.2.2 + 1)), some ((eO D.int) x3), none]) (fun (x5 : ((List (Int × (Option Int))) × (List (Option Int)))) (x6 : Int) => [some ((eT (eT D.int)) a0), some ((eL (eO D.int)) a1), some (D.int a2), some ((eDk kI (eO D.int)) x5.1), some ((eL (eO D.int)) x5.2), some (D.int (x1.2.2 + 1)), some ((eO D.int) x3), some (D.int x6)]) rfl (fun _ _ => rfl) (fun x5 x6 =>
  (t_if (evNx (evB (ev2 rfl rfl (op_dhasDN kd_I inj_kI)))) (t_assoc (t_seq fin_L (fun x9 : (List (Int × (Option Int))) => [some ((eT (eT D.int)) a0), some ((eL (eO D.int)) a1), some (D.int a2), some ((eDk kI (eO D.int)) x9), some ((eL (eO D.int)) x5.2), some (D.int (x1.2.2 + 1)), some ((eO D.int) x3), some (D.int x6)]) (s_putD kd_I inj_kI (e := (eO D.int)) (xs := x5.1) (fun ys : (List (Int × (Option Int))) => [some ((eT (eT D.int)) a0), some ((eL (eO D.int)) a1), some (D.int a2), some ((eDk kI (eO D.int)) ys), some ((eL (eO D.int)) x5.2), some (D.int (x1.2.2 + 1)), some ((eO D.int) x3), some (D.int x6)]) rfl (rf_ok (e := (eO D.int)) rfl) (rf_ok (e := D.int) rfl) fun _ => rfl) fun x9 =>
  (t_assoc (t_ifI fin_L (q_B (b_iB (q_f1 (b_i (q_f2 (b_p rfl (b_p rfl op_ixL))) fun x10 => (rf_ok (op_isN fun _ => rfl)))))) (t_retp rfl rfl)
  (t_nextS (t_seq fin_L (fun x12 : (List (Option Int)) => [some ((eT (eT D.int)) a0), some ((eL (eO D.int)) a1), some (D.int a2), some ((eDk kI (eO D.int)) x9), some ((eL (eO D.int)) x12), some (D.int (x1.2.2 + 1)), some ((eO D.int) x3), some (D.int x6)]) (s_appI (e := (eO D.int)) (xs := x5.2) (fun ys : (List (Option Int)) => [some ((eT (eT D.int)) a0), some ((eL (eO D.int)) a1), some (D.int a2), some ((eDk kI (eO D.int)) x9), some ((eL (eO D.int)) ys), some (D.int (x1.2.2 + 1)), some ((eO D.int) x3), some (D.int x6)]) rfl (q_f2 (b_p rfl (b_p rfl op_ixL))) fun _ => rfl) fun x12 =>
  (t_next rfl)))))))
  (t_nextS (t_next rfl)))) (fun x14 =>
  (t_next rfl)) fun _ => rfl)))))) (fun x16 =>
  (t_end (t_retF (rf_ok (e := (eP2 (eDk kI (eO D.int)) (eO D.int))) rfl)))) fun _ => rfl)))))
def N_changed_owners_loi_mioiq_i_i (a0 : (List (Option Int))) (a1 : (List (Int × (Option Int)))) (a2 : Int) (a3 : Int) : Res (List (Option Int)) :=
  ((dcR (enumI 0 a0) (fun x1 => Res.ok (!(Option.isNone x1.2))) (fun x1 => (unO x1.2)) (fun x1 => (Res.ok x1.1))).bind fun x2 =>
  ((dgetN a1 a3).bind fun x3 =>
  (((whileC (σ := ((List (Option Int)) × Int × (Option Int))) (β := Unit) (fun x4 => Res.ok (!eqB x4.2.2 (some a2))) (fun x4 => ((setR x4.1 x4.2.1 x4.2.2).bind fun x6 =>
  (((unO x4.2.2).bind fun x7 => (dgetN x2 x7)).bind fun x8 =>
  ((dgetN a1 x8).bind fun x9 =>
  Res.ok (.go (x6, x8, x9)))))) FUEL (a0, a3, x3)).bind (ctlS (β := Unit))).bind fun x10 =>
  ((setR x10.1 x10.2.1 (some a2)).bind fun x11 =>
  (Res.ok x11)))))
theorem n_changed_owners_loi_mioiq_i_i (a0 : (List (Option Int))) (a1 : (List (Int × (Option Int)))) (a2 : Int) (a3 : Int) : Rf (m_changed_owners [(eL (eO D.int)) a0, (eDk kI (eO D.int)) a1, D.int a2, D.int a3]) (N_changed_owners_loi_mioiq_i_i a0 a1 a2 a3) (eL (eO D.int)) :=
  n_runF ((t_seq fin_F (fun x2 : (List (Int × Int)) => [some ((eL (eO D.int)) a0), some ((eDk kI (eO D.int)) a1), some (D.int a2), some (D.int a3), some ((eDk kI D.int) x2), none, none, none, none]) (s_set (e := (eDk kI D.int)) _ (rf_dcp kd_I inj_kI (it_enL (e := (eO D.int)) (xs := a0) rfl) (fun x1 : (Int × (Option Int)) => [some ((eL (eO D.int)) a0), some ((eDk kI (eO D.int)) a1), some (D.int a2), some (D.int a3), none, none, some (D.int x1.1), none, some ((eO D.int) x1.2)]) (fun _ => rfl) (fun x1 => (rf_ok (e := fun b => b) (evB (ev1 rfl (op_not1 (op_isN fun _ => rfl)))))) (fun x1 => (rf_unO rfl)) (fun x1 => (rf_ok (e := D.int) rfl))) fun _ => rfl) fun x2 =>
  (t_seqp [some ((eL (eO D.int)) a0), some ((eDk kI (eO D.int)) a1), some (D.int a2), some (D.int a3), some ((eDk kI D.int) x2), some ((eL (eO D.int)) a0), none, none, none] (set_p rfl rfl) (t_seqp [some ((eL (eO D.int)) a0), some ((eDk kI (eO D.int)) a1), some (D.int a2), some (D.int a3), some ((eDk kI D.int) x2), some ((eL (eO D.int)) a0), some (D.int a3), none, none] (set_p rfl rfl) (t_seq fin_F (fun x3 : (Option Int) => [some ((eL (eO D.int)) a0), some ((eDk kI (eO D.int)) a1), some (D.int a2), some (D.int a3), some ((eDk kI D.int) x2), some ((eL (eO D.int)) a0), some (D.int a3), some ((eO D.int) x3), none]) (s_set (e := (eO D.int)) _ (q_f2 (b_p rfl (b_p rfl (op_dgetD kd_I inj_kI)))) fun _ => rfl) fun x3 =>
  (t_seq fin_F (fun x10 : ((List (Option Int)) × Int × (Option Int)) => [some ((eL (eO D.int)) a0), some ((eDk kI (eO D.int)) a1), some (D.int a2), some (D.int a3), some ((eDk kI D.int) x2), some ((eL (eO D.int)) x10.1), some (D.int x10.2.1), some ((eO D.int) x10.2.2), none]) (s_while (s0 := (a0, a3, x3)) (fun x4 : ((List (Option Int)) × Int × (Option Int)) => [some ((eL (eO D.int)) a0), some ((eDk kI (eO D.int)) a1), some (D.int a2), some (D.int a3), some ((eDk kI D.int) x2), some ((eL (eO D.int)) x4.1), some (D.int x4.2.1), some ((eO D.int) x4.2.2), none]) rfl (fun x4 => (rf_ok (e := fun b => b) (evB (ev2 rfl rfl (op_ne (e := (eO D.int)) (x := x4.2.2) (x' := (some a2))))))) fun x4 =>
  (t_assoc (t_seq fin_L (fun x6 : (List (Option Int)) => [some ((eL (eO D.int)) a0), some ((eDk kI (eO D.int)) a1), some (D.int a2), some (D.int a3), some ((eDk kI D.int) x2), some ((eL (eO D.int)) x6), some (D.int x4.2.1), some ((eO D.int) x4.2.2), none]) (s_setIx (e := (eO D.int)) (xs := x4.1) (d := x4.2.2) (fun ys : (List (Option Int)) => [some ((eL (eO D.int)) a0), some ((eDk kI (eO D.int)) a1), some (D.int a2), some (D.int a3), some ((eDk kI D.int) x2), some ((eL (eO D.int)) ys), some (D.int x4.2.1), some ((eO D.int) x4.2.2), none]) rfl rfl rfl fun _ => rfl) fun x6 =>
  (t_assoc (t_seq fin_L (fun x8 : Int => [some ((eL (eO D.int)) a0), some ((eDk kI (eO D.int)) a1), some (D.int a2), some (D.int a3), some ((eDk kI D.int) x2), some ((eL (eO D.int)) x6), some (D.int x8), some ((eO D.int) x4.2.2), none]) (s_set (e := D.int) _ (q_f2 (b_p rfl (b_i (rf_unO rfl) fun x7 => (op_dgetD kd_I inj_kI)))) fun _ => rfl) fun x8 =>
  (t_seq fin_L (fun x9 : (Option Int) => [some ((eL (eO D.int)) a0), some ((eDk kI (eO D.int)) a1), some (D.int a2), some (D.int a3), some ((eDk kI D.int) x2), some ((eL (eO D.int)) x6), some (D.int x8), some ((eO D.int) x9), none]) (s_set (e := (eO D.int)) _ (q_f2 (b_p rfl (b_p rfl (op_dgetD kd_I inj_kI)))) fun _ => rfl) fun x9 =>
  (t_next rfl))))))) fun x10 =>
  (t_seq fin_F (fun x11 : (List (Option Int)) => [some ((eL (eO D.int)) a0), some ((eDk kI (eO D.int)) a1), some (D.int a2), some (D.int a3), some ((eDk kI D.int) x2), some ((eL (eO D.int)) x11), some (D.int x10.2.1), some ((eO D.int) x10.2.2), none]) (s_setIx (e := (eO D.int)) (xs := x10.1) (d := (some a2)) (fun ys : (List (Option Int)) => [some ((eL (eO D.int)) a0), some ((eDk kI (eO D.int)) a1), some (D.int a2), some (D.int a3), some ((eDk kI D.int) x2), some ((eL (eO D.int)) ys), some (D.int x10.2.1), some ((eO D.int) x10.2.2), none]) rfl rfl rfl fun _ => rfl) fun x11 =>
  (t_end (t_retF (rf_ok (e := (eL (eO D.int))) rfl))))))))))
def N_greatest_owners_tti (a0 : (List (List Int))) : Res (List (Option Int)) :=
  ((lcR a0 (fun x1 => Res.ok true) (fun x1 => (Res.ok none))).bind fun x2 =>
  (((rngR (a0.length : Int)).bind fun x13 => (forR (σ := (List (Option Int))) (fun x3 x4 => ((N_search_tti_loi_i a0 x3 x4).bind fun x5 =>
  ((optC x5.2 (Res.ok (x3, none)) fun x10 => ((N_changed_owners_loi_mioiq_i_i x3 x5.1 x4 x10).bind fun x11 =>
  Res.ok (x11, (some x10)))).bind fun x12 =>
  Res.ok x12.1))) x13 x2)).bind fun x14 =>
  (Res.ok x14)))
theorem n_greatest_owners_tti (a0 : (List (List Int))) : Rf (m_greatest_owners [(eT (eT D.int)) a0]) (N_greatest_owners_tti a0) (eL (eO D.int)) :=
  n_runF ((t_seq fin_F (fun x2 : (List (Option Int)) => [some ((eT (eT D.int)) a0), some ((eL (eO D.int)) x2), none, none, none, none]) (s_set (e := (eL (eO D.int))) _ (rf_lcp (it_T (e := (eT D.int)) (xs := a0) rfl) (fun x1 : (List Int) => [some ((eT (eT D.int)) a0), none, none, some ((eT D.int) x1), none, none]) (fun _ => rfl) (fun x1 => (rf_ok (v := true) rfl)) (fun x1 => (rf_ok (e := (eO D.int)) rfl))) fun _ => rfl) fun x2 =>
  (t_seq fin_F (fun x14 : (List (Option Int)) => [some ((eT (eT D.int)) a0), some ((eL (eO D.int)) x14), none, none, none, none]) (s_for (ex := D.int) (s0 := x2) (q_R1 (a_p (evOn (evA rfl rfl) op_lenT) (a_0 k_R1))) (fun x3 : (List (Option Int)) => [some ((eT (eT D.int)) a0), some ((eL (eO D.int)) x3), none, none, none, none]) (fun (x3 : (List (Option Int))) (x4 : Int) => [some ((eT (eT D.int)) a0), some ((eL (eO D.int)) x3), some (D.int x4), none, none, none]) rfl (fun _ _ => rfl) fun x3 x4 =>
  (t_assoc (t_seq fin_L (fun x5 : ((List (Int × (Option Int))) × (Option Int)) => [some ((eT (eT D.int)) a0), some ((eL (eO D.int)) x3), some (D.int x4), none, some ((eDk kI (eO D.int)) x5.1), some ((eO D.int) x5.2)]) (s_asg (e := (eP2 (eDk kI (eO D.int)) (eO D.int))) (fun v : ((List (Int × (Option Int))) × (Option Int)) => [some ((eT (eT D.int)) a0), some ((eL (eO D.int)) x3), some (D.int x4), none, some ((eDk kI (eO D.int)) v.1), some ((eO D.int) v.2)]) (q_on (a_p rfl (a_p rfl (a_p rfl (a_0 (rf_chk (n_search_tti_loi_i a0 x3 x4) rfl)))))) fun _ => rfl) fun x5 =>
  (t_seq fin_L (fun x12 : ((List (Option Int)) × (Option Int)) => [some ((eT (eT D.int)) a0), some ((eL (eO D.int)) x12.1), some (D.int x4), none, some ((eDk kI (eO D.int)) x5.1), some ((eO D.int) x12.2)]) (s_if (o' := (fun s : ((List (Option Int)) × (Option Int)) => Fl.nx [some ((eT (eT D.int)) a0), some ((eL (eO D.int)) s.1), some (D.int x4), none, some ((eDk kI (eO D.int)) x5.1), some ((eO D.int) s.2)])) (t_ifC (x := x5.2) (fun z : (Option Int) => [some ((eT (eT D.int)) a0), some ((eL (eO D.int)) x3), some (D.int x4), none, some ((eDk kI (eO D.int)) x5.1), some ((eO D.int) z)]) (t_ifF rfl (t_nextS (t_next rfl))) fun x10 => (t_ifT rfl (t_seq fin_S (fun x11 : (List (Option Int)) => [some ((eT (eT D.int)) a0), some ((eL (eO D.int)) x11), some (D.int x4), none, some ((eDk kI (eO D.int)) x5.1), some (D.int x10)]) (s_set (e := (eL (eO D.int))) _ (q_on (a_p rfl (a_p rfl (a_p rfl (a_p rfl (a_0 (rf_chk (n_changed_owners_loi_mioiq_i_i x3 x5.1 x4 x10) rfl))))))) fun _ => rfl) fun x11 =>
  (t_next rfl))))) fun x12 =>
  (t_next rfl))))) fun x14 =>
  (t_end (t_retF (rf_ok (e := (eL (eO D.int))) rfl))))))
def N_reached_goals_tti_loi_li (a0 : (List (List Int))) (a1 : (List (Option Int))) (a2 : (List Int)) : Res (List (Int × (Option Int))) :=
  ((forR (σ := (List (Int × (Option Int)))) (fun x1 x2 => ((((N_search_tti_loi_i a0 a1 x2).bind fun x3 => (Res.ok x3.1)).bind fun x4 => mrgR x1 x4).bind fun x5 =>
  Res.ok x5)) a2 []).bind fun x6 =>
  (Res.ok x6))
theorem n_reached_goals_tti_loi_li (a0 : (List (List Int))) (a1 : (List (Option Int))) (a2 : (List Int)) : Rf (m_reached_goals [(eT (eT D.int)) a0, (eL (eO D.int)) a1, (eL D.int) a2]) (N_reached_goals_tti_loi_li a0 a1 a2) (eDk kI (eO D.int)) :=
  n_runF ((t_seqp [some ((eT (eT D.int)) a0), some ((eL (eO D.int)) a1), some ((eL D.int) a2), some ((eDk kI (eO D.int)) []), none] (set_p rfl rfl) (t_seq fin_F (fun x6 : (List (Int × (Option Int))) => [some ((eT (eT D.int)) a0), some ((eL (eO D.int)) a1), some ((eL D.int) a2), some ((eDk kI (eO D.int)) x6), none]) (s_forp (ex := D.int) (s0 := []) (it_L (e := D.int) (xs := a2) rfl) (fun x1 : (List (Int × (Option Int))) => [some ((eT (eT D.int)) a0), some ((eL (eO D.int)) a1), some ((eL D.int) a2), some ((eDk kI (eO D.int)) x1), none]) (fun (x1 : (List (Int × (Option Int)))) (x2 : Int) => [some ((eT (eT D.int)) a0), some ((eL (eO D.int)) a1), some ((eL D.int) a2), some ((eDk kI (eO D.int)) x1), some (D.int x2)]) rfl (fun _ _ => rfl) fun x1 x2 =>
  (t_seq fin_L (fun x5 : (List (Int × (Option Int))) => [some ((eT (eT D.int)) a0), some ((eL (eO D.int)) a1), some ((eL D.int) a2), some ((eDk kI (eO D.int)) x5), some (D.int x2)]) (s_updD inj_kI (e := (eO D.int)) (xs := x1) (fun ys : (List (Int × (Option Int))) => [some ((eT (eT D.int)) a0), some ((eL (eO D.int)) a1), some ((eL D.int) a2), some ((eDk kI (eO D.int)) ys), some (D.int x2)]) rfl (q_f2 (b_i (q_on (a_p rfl (a_p rfl (a_p rfl (a_0 (rf_chk (n_search_tti_loi_i a0 a1 x2) rfl)))))) fun x3 => (b_p rfl (rf_ok rfl)))) fun _ => rfl) fun x5 =>
  (t_next rfl))) fun x6 =>
  (t_end (t_retF (rf_ok (e := (eDk kI (eO D.int))) rfl))))))
def N_Matching_init_toi_i_ti_ti (a0 : (List (Option Int))) (a1 : Int) (a2 : (List Int)) (a3 : (List Int)) : Res ((List (Option Int)) × Int × (List Int) × (List Int)) :=
  ((Res.ok a0).bind fun x1 =>
  ((Res.ok a1).bind fun x2 =>
  ((Res.ok a2).bind fun x3 =>
  ((Res.ok a3).bind fun x4 =>
  Res.ok (((x1, x2).1, (x1, x2).2, x3).1, ((x1, x2).1, (x1, x2).2, x3).2.1, ((x1, x2).1, (x1, x2).2, x3).2.2, x4)))))
theorem n_Matching_init_toi_i_ti_ti (a0 : (List (Option Int))) (a1 : Int) (a2 : (List Int)) (a3 : (List Int)) : Rf (m_Matching_init [(eT (eO D.int)) a0, D.int a1, (eT D.int) a2, (eT D.int) a3]) (N_Matching_init_toi_i_ti_ti a0 a1 a2 a3) (eOb4 "Matching" "partners" "count" "senders" "goals" (eT (eO D.int)) D.int (eT D.int) (eT D.int)) :=
  n_runI ((t_seq fin_I (fun x1 : (List (Option Int)) => [some ((eOb1 "Matching" "partners" (eT (eO D.int))) x1), some ((eT (eO D.int)) a0), some (D.int a1), some ((eT D.int) a2), some ((eT D.int) a3)]) (s_fld (e := (eT (eO D.int))) (ns := []) (ds := []) (fun v : (List (Option Int)) => [some ((eOb1 "Matching" "partners" (eT (eO D.int))) v), some ((eT (eO D.int)) a0), some (D.int a1), some ((eT D.int) a2), some ((eT D.int) a3)]) rfl (by decide) (rf_ok (e := (eT (eO D.int))) rfl) fun _ => rfl) fun x1 =>
  (t_seq fin_I (fun x2 : Int => [some ((eOb2 "Matching" "partners" "count" (eT (eO D.int)) D.int) (x1, x2)), some ((eT (eO D.int)) a0), some (D.int a1), some ((eT D.int) a2), some ((eT D.int) a3)]) (s_fld (e := D.int) (ns := ["partners"]) (ds := [(eT (eO D.int)) x1]) (fun v : Int => [some ((eOb2 "Matching" "partners" "count" (eT (eO D.int)) D.int) (x1, v)), some ((eT (eO D.int)) a0), some (D.int a1), some ((eT D.int) a2), some ((eT D.int) a3)]) rfl (by decide) (rf_ok (e := D.int) rfl) fun _ => rfl) fun x2 =>
  (t_seq fin_I (fun x3 : (List Int) => [some ((eOb3 "Matching" "partners" "count" "senders" (eT (eO D.int)) D.int (eT D.int)) ((x1, x2).1, (x1, x2).2, x3)), some ((eT (eO D.int)) a0), some (D.int a1), some ((eT D.int) a2), some ((eT D.int) a3)]) (s_fld (e := (eT D.int)) (ns := ["partners", "count"]) (ds := [(eT (eO D.int)) ((x1, x2).1), D.int ((x1, x2).2)]) (fun v : (List Int) => [some ((eOb3 "Matching" "partners" "count" "senders" (eT (eO D.int)) D.int (eT D.int)) ((x1, x2).1, (x1, x2).2, v)), some ((eT (eO D.int)) a0), some (D.int a1), some ((eT D.int) a2), some ((eT D.int) a3)]) rfl (by decide) (rf_ok (e := (eT D.int)) rfl) fun _ => rfl) fun x3 =>
  (t_end (t_seq fin_I (fun x4 : (List Int) => [some ((eOb4 "Matching" "partners" "count" "senders" "goals" (eT (eO D.int)) D.int (eT D.int) (eT D.int)) (((x1, x2).1, (x1, x2).2, x3).1, ((x1, x2).1, (x1, x2).2, x3).2.1, ((x1, x2).1, (x1, x2).2, x3).2.2, x4)), some ((eT (eO D.int)) a0), some (D.int a1), some ((eT D.int) a2), some ((eT D.int) a3)]) (s_fld (e := (eT D.int)) (ns := ["partners", "count", "senders"]) (ds := [(eT (eO D.int)) (((x1, x2).1, (x1, x2).2, x3).1), D.int (((x1, x2).1, (x1, x2).2, x3).2.1), (eT D.int) (((x1, x2).1, (x1, x2).2, x3).2.2)]) (fun v : (List Int) => [some ((eOb4 "Matching" "partners" "count" "senders" "goals" (eT (eO D.int)) D.int (eT D.int) (eT D.int)) (((x1, x2).1, (x1, x2).2, x3).1, ((x1, x2).1, (x1, x2).2, x3).2.1, ((x1, x2).1, (x1, x2).2, x3).2.2, v)), some ((eT (eO D.int)) a0), some (D.int a1), some ((eT D.int) a2), some ((eT D.int) a3)]) rfl (by decide) (rf_ok (e := (eT D.int)) rfl) fun _ => rfl) fun x4 =>
  (t_next (o := (eOb4 "Matching" "partners" "count" "senders" "goals" (eT (eO D.int)) D.int (eT D.int) (eT D.int))) (v := (((x1, x2).1, (x1, x2).2, x3).1, ((x1, x2).1, (x1, x2).2, x3).2.1, ((x1, x2).1, (x1, x2).2, x3).2.2, x4)) rfl)))))))
end Kx
namespace Kx
open PySem PySem.Spec L2 Da
def F_greatest_matching : FS := (fSeq (fSet 0 (fOn (chk 1 m_frozen) (fA (fV 0) fA0)))
    (fSeq (fSet 1 (fOn (chk 1 m_greatest_owners) (fA (fV 0) fA0)))
    (fSeq (fSet 2 (fLc [10] (fL (fV 0)) (gN 10) fYes (fC .non)))
    (fSeq (fFor (fEnum (fA (fV 1) fA0)) (gT (gsC (gN 8) (gsC (gN 9) gs0))) (fFgt [8, 9] (fFgt [] (fIfS (fB (f1 (dNot1 dIsN) (fV 9))) (fSetIx 2 (fV 8) (fV 9)) fNext))))
    (fSeq (fSet 3 (fLc [11, 8] (fEnum (fA (fV 2) fA0)) (gT (gsC (gN 11) (gsC (gN 8) gs0))) (fB (f1 dIsN (fV 8))) (fV 11)))
    (fSeq (fSet 4 (fOn (chk 3 m_reached_goals) (fA (fV 0) (fA (fV 1) (fA (fV 3) fA0)))))
    (fSeq (fSet 5 (fDc [8] (fKy 4) (gN 8) fYes (f2 dIx (fV 1) (fV 8)) (fC (.bl true))))
    (fSeq (fSet 6 (fOn (on1 dTuple) (fA (fLc [12, 8] (fEnum (fA (fV 2) fA0)) (gT (gsC (gN 12) (gsC (gN 8) gs0))) (fAnd (fB (f1 (dNot1 dIsN) (fV 8))) (fNx (fB (f2 (dHas true) (fV 12) (fV 5))))) (fV 12)) fA0)))
    (fSeq (fSet 7 (fOn (on1 dTuple) (fA (fOn (on1 dSortK) (fA (fV 4) fA0)) fA0)))
    (fRet (fOn (chk 4 m_Matching_init) (fA (fOn (on1 dTuple) (fA (fV 2) fA0)) (fA (f2 dSub (fOn (on1 dLen) (fA (fV 0) fA0)) (fOn (on1 dLen) (fA (fV 3) fA0))) (fA (fV 6) (fA (fV 7) fA0)))))))))))))))
def m_greatest_matching : List D → Res D := runF 13 .sh F_greatest_matching
def N_frozen_tti (a0 : (List (List Int))) : Res (List (List Int)) :=
  ((lcR a0 (fun x1 => Res.ok true) (fun x1 => (N_frozen_ti x1))).bind fun x2 => (Res.ok x2))
end Kx
namespace Kx
open PySem PySem.Spec L2 Da
def F_check_square : FS := (fSeq (fSet 1 (fOn (on1 dLen) (fA (fV 0) fA0)))
    (fSeq (fFor (fR1 (fA (fV 1) fA0)) (gN 2) (fFgt [2, 4] (fFor (fR1 (fA (fV 1) fA0)) (gN 4) (fFgt [4] (fIfS (fB (f2 dLt (f2 dIx (f2 dIx (fV 0) (fV 2)) (fV 4)) (fC (.int 0)))) (fRaise "BadEntry" ["row", "column"] (fA (fV 2) (fA (fV 4) fA0))) fNext)))))
    (fSeq (fSet 3 (f2 dAddL (fLc [7] (fL (fV 0)) (gN 7) fYes (fOn (on1 dSumB) (fA (fV 7) fA0))) (fLc [4] (fR1 (fA (fV 1) fA0)) (gN 4) fYes (fOn (on1 dSumB) (fA (fLc [7] (fL (fV 0)) (gN 7) fYes (f2 dIx (fV 7) (fV 4))) fA0)))))
    (fFor (fEnum (fA (fV 3) fA0)) (gT (gsC (gN 5) (gsC (gN 6) gs0))) (fFgt [5, 6] (fIfS (fB (f2 dNe (fV 6) (f2 dIx (fV 3) (fC (.int 0))))) (fRaise "Uneven" ["index"] (fA (fV 5) fA0)) fNext))))))
def m_check_square : List D → Res D := runF 8 .sh F_check_square
def F_perfect_partners : FS := (fSeq (fSet 1 (fOn (chk 1 m_greatest_matching) (fA (fV 0) fA0)))
    (fSeq (fIfS (fB (f2 dLt (f1 (dFld "Matching" "count") (fV 1)) (fOn (on1 dLen) (fA (f1 (dFld "Matching" "partners") (fV 1)) fA0)))) (fRet (fC .non)) fNext)
    (fRet (f1 (dFld "Matching" "partners") (fV 1)))))
def m_perfect_partners : List D → Res D := runF 2 .sh F_perfect_partners
def F_parted : FS := (fSeq (fSet 0 (fOn (chk 1 m_frozen) (fA (fV 0) fA0)))
    (fSeq (fDrop (fOn (chk 1 m_check_square) (fA (fV 0) fA0)))
    (fSeq (fSet 1 (fLc [5] (fL (fV 0)) (gN 5) fYes (fOn (on1 dList) (fA (fV 5) fA0))))
    (fSeq (fSet 2 (fOn gLstD fA0))
    (fSeq (fFor (fR1 (fA (fOn (on1 dSumB) (fA (f2 dIx (fV 0) (fC (.int 0))) fA0)) fA0)) (gN 3) (fFgt [3, 4, 6, 7] (fSeq (fSet 4 (fNl (fOn (chk 1 m_perfect_partners) (fA (fLc [5] (fL (fV 1)) (gN 5) fYes (fLc [7, 8] (fEnum (fA (fV 5) fA0)) (gT (gsC (gN 7) (gsC (gN 8) gs0))) (fB (f2 dGt (fV 8) (fC (.int 0)))) (fV 7))) fA0))))
    (fSeq (fApp 2 (fV 4))
    (fFor (fEnum (fA (fV 4) fA0)) (gT (gsC (gN 6) (gsC (gN 7) gs0))) (fFgt [6, 7] (fAug2 1 (fun i j => i - j) (fC (.int 1)) (fV 6) (fV 7))))))))
    (fRet (fOn (on1 dTuple) (fA (fV 2) fA0))))))))
def m_parted : List D → Res D := runF 9 .sh F_parted
def N_check_square_tti (a0 : (List (List Int))) : Res Unit :=
  (((rngR (a0.length : Int)).bind fun x10 => (forR (σ := Unit) (fun x1 x2 => (((rngR (a0.length : Int)).bind fun x8 => (forR (σ := Unit) (fun x3 x4 => ((((ixR a0 x2).bind fun x5 => (ixR x5 x4)).bind fun x6 => (Res.ok (decide (x6 < 0)))).bind fun x7 => if x7 = true then (Res.ex "BadEntry" [("column", D.int x4), ("row", D.int x2)]) else
  Res.ok ())) x8 ())).bind fun x9 =>
  Res.ok ())) x10 ())).bind fun x11 =>
  (((lcR a0 (fun x12 => Res.ok true) (fun x12 => (Res.ok x12.sum))).bind fun x17 => (((rngR (a0.length : Int)).bind fun x16 => lcR x16 (fun x13 => Res.ok true) (fun x13 => ((lcR a0 (fun x14 => Res.ok true) (fun x14 => (ixR x14 x13))).bind fun x15 => (Res.ok x15.sum)))).bind fun x18 => (catR x17 x18))).bind fun x19 =>
  ((forR (σ := Unit) (fun x20 x21 => (((ixR x19 0).bind fun x22 => (Res.ok (!decide (x21.2 = x22)))).bind fun x23 => if x23 = true then (Res.ex "Uneven" [("index", D.int x21.1)]) else
  Res.ok ())) (enumI 0 x19) ()).bind fun x24 =>
  Res.ok ())))
theorem n_check_square_tti (a0 : (List (List Int))) : Rf (m_check_square [(eT (eT D.int)) a0]) (N_check_square_tti a0) eN :=
  n_runF ((t_seqp [some ((eT (eT D.int)) a0), some (D.int (a0.length : Int)), none, none, none, none, none, none] (set_p (evOn (evA rfl rfl) op_lenT) rfl) (t_seq fin_F (fun x11 : Unit => [some ((eT (eT D.int)) a0), some (D.int (a0.length : Int)), none, none, none, none, none, none]) (s_for (ex := D.int) (s0 := ()) (q_R1 (a_p rfl (a_0 k_R1))) (fun x1 : Unit => [some ((eT (eT D.int)) a0), some (D.int (a0.length : Int)), none, none, none, none, none, none]) (fun (x1 : Unit) (x2 : Int) => [some ((eT (eT D.int)) a0), some (D.int (a0.length : Int)), some (D.int x2), none, none, none, none, none]) rfl (fun _ _ => rfl) fun x1 x2 =>
  (t_seq fin_L (fun x9 : Unit => [some ((eT (eT D.int)) a0), some (D.int (a0.length : Int)), some (D.int x2), none, none, none, none, none]) (s_for (ex := D.int) (s0 := ()) (q_R1 (a_p rfl (a_0 k_R1))) (fun x3 : Unit => [some ((eT (eT D.int)) a0), some (D.int (a0.length : Int)), some (D.int x2), none, none, none, none, none]) (fun (x3 : Unit) (x4 : Int) => [some ((eT (eT D.int)) a0), some (D.int (a0.length : Int)), some (D.int x2), none, some (D.int x4), none, none, none]) rfl (fun _ _ => rfl) fun x3 x4 =>
  (t_ifI fin_L (q_B (b_iB (q_f2 (b_i (q_f2 (b_i (q_f2 (b_p rfl (b_p rfl op_ixT))) fun x5 => (b_p rfl op_ixT))) fun x6 => (b_p rfl (rf_ok rfl)))))) (t_raise fin_L (a_p rfl (a_p rfl (a_0 (rf_ex rfl)))))
  (t_nextS (t_next rfl)))) fun x9 =>
  (t_next rfl))) fun x11 =>
  (t_seq fin_F (fun x19 : (List Int) => [some ((eT (eT D.int)) a0), some (D.int (a0.length : Int)), none, some ((eL D.int) x19), none, none, none, none]) (s_set (e := (eL D.int)) _ (q_f2 (b_i (rf_lcp (it_T (e := (eT D.int)) (xs := a0) rfl) (fun x12 : (List Int) => [some ((eT (eT D.int)) a0), some (D.int (a0.length : Int)), none, none, none, none, none, some ((eT D.int) x12)]) (fun _ => rfl) (fun x12 => (rf_ok (v := true) rfl)) (fun x12 => (rf_ok (e := D.int) (evOn (evA rfl rfl) op_sumBT)))) fun x17 => (b_i (rf_lc (q_R1 (a_p rfl (a_0 k_R1))) (fun x13 : Int => [some ((eT (eT D.int)) a0), some (D.int (a0.length : Int)), none, none, some (D.int x13), none, none, none]) (fun _ => rfl) (fun x13 => (rf_ok (v := true) rfl)) (fun x13 => (q_on (a_i (rf_lcp (it_T (e := (eT D.int)) (xs := a0) rfl) (fun x14 : (List Int) => [some ((eT (eT D.int)) a0), some (D.int (a0.length : Int)), none, none, some (D.int x13), none, none, some ((eT D.int) x14)]) (fun _ => rfl) (fun x14 => (rf_ok (v := true) rfl)) (fun x14 => (q_f2 (b_p rfl (b_p rfl op_ixT))))) fun x15 => (a_0 (rf_ok op_sumBL)))))) fun x18 => (op_catLL (e := D.int))))) fun _ => rfl) fun x19 =>
  (t_end (t_seq fin_F (fun x24 : Unit => [some ((eT (eT D.int)) a0), some (D.int (a0.length : Int)), none, some ((eL D.int) x19), none, none, none, none]) (s_forp (ex := (eP2 D.int D.int)) (s0 := ()) (it_enL (e := D.int) (xs := x19) rfl) (fun x20 : Unit => [some ((eT (eT D.int)) a0), some (D.int (a0.length : Int)), none, some ((eL D.int) x19), none, none, none, none]) (fun (x20 : Unit) (x21 : (Int × Int)) => [some ((eT (eT D.int)) a0), some (D.int (a0.length : Int)), none, some ((eL D.int) x19), none, some (D.int x21.1), some (D.int x21.2), none]) rfl (fun _ _ => rfl) fun x20 x21 =>
  (t_ifI fin_L (q_B (b_iB (q_f2 (b_p rfl (b_i (q_f2 (b_p rfl (b_p rfl op_ixL))) fun x22 => (rf_ok (op_ne (e := D.int) (x := x21.2) (x' := x22)))))))) (t_raise fin_L (a_p rfl (a_0 (rf_ex rfl))))
  (t_nextS (t_next rfl)))) fun x24 =>
  (t_next (o := eN) (v := ()) rfl)))))))
def N_greatest_matching_lli (a0 : (List (List Int))) : Res ((List (Option Int)) × Int × (List Int) × (List Int)) :=
  ((N_frozen_lli a0).bind fun x1 =>
  ((N_greatest_owners_tti x1).bind fun x2 =>
  ((lcR x1 (fun x3 => Res.ok true) (fun x3 => (Res.ok none))).bind fun x4 =>
  ((forR (σ := (List (Option Int))) (fun x5 x6 => ((optC x6.2 (Res.ok (x5, none)) fun x11 => ((setR x5 x11 (some x6.1)).bind fun x12 =>
  Res.ok (x12, (some x11)))).bind fun x13 =>
  Res.ok x13.1)) (enumI 0 x2) x4).bind fun x14 =>
  ((lcR (enumI 0 x14) (fun x15 => Res.ok (Option.isNone x15.2)) (fun x15 => (Res.ok x15.1))).bind fun x16 =>
  ((N_reached_goals_tti_loi_li x1 x2 x16).bind fun x17 =>
  ((dcR (x17.map fun x18 => x18.1) (fun x19 => Res.ok true) (fun x19 => ((ixR x2 x19).bind unO)) (fun x19 => (Res.ok true))).bind fun x20 =>
  (((lcR (enumI 0 x14) (fun x21 => Res.ok ((!(Option.isNone x21.2)) && (!dhasN x20 x21.1))) (fun x21 => (Res.ok x21.1))).bind fun x22 => (Res.ok x22)).bind fun x23 =>
  (((sortKR (x17.map fun x25 => x25.1)).bind fun x26 => (Res.ok x26)).bind fun x27 =>
  (N_Matching_init_toi_i_ti_ti x14 ((x1.length : Int) - (x16.length : Int)) x23 x27))))))))))
theorem n_greatest_matching_lli (a0 : (List (List Int))) : Rf (m_greatest_matching [(eL (eL D.int)) a0]) (N_greatest_matching_lli a0) (eOb4 "Matching" "partners" "count" "senders" "goals" (eT (eO D.int)) D.int (eT D.int) (eT D.int)) :=
  n_runF ((t_seq fin_F (fun x1 : (List (List Int)) => [some ((eT (eT D.int)) x1), none, none, none, none, none, none, none, none, none, none, none, none]) (s_set (e := (eT (eT D.int))) _ (q_on (a_p rfl (a_0 (rf_chk (n_frozen_lli a0) rfl)))) fun _ => rfl) fun x1 =>
  (t_seq fin_F (fun x2 : (List (Option Int)) => [some ((eT (eT D.int)) x1), some ((eL (eO D.int)) x2), none, none, none, none, none, none, none, none, none, none, none]) (s_set (e := (eL (eO D.int))) _ (q_on (a_p rfl (a_0 (rf_chk (n_greatest_owners_tti x1) rfl)))) fun _ => rfl) fun x2 =>
  (t_seq fin_F (fun x4 : (List (Option Int)) => [some ((eT (eT D.int)) x1), some ((eL (eO D.int)) x2), some ((eL (eO D.int)) x4), none, none, none, none, none, none, none, none, none, none]) (s_set (e := (eL (eO D.int))) _ (rf_lcp (it_T (e := (eT D.int)) (xs := x1) rfl) (fun x3 : (List Int) => [some ((eT (eT D.int)) x1), some ((eL (eO D.int)) x2), none, none, none, none, none, none, none, none, some ((eT D.int) x3), none, none]) (fun _ => rfl) (fun x3 => (rf_ok (v := true) rfl)) (fun x3 => (rf_ok (e := (eO D.int)) rfl))) fun _ => rfl) fun x4 =>
  (t_seq fin_F (fun x14 : (List (Option Int)) => [some ((eT (eT D.int)) x1), some ((eL (eO D.int)) x2), some ((eL (eO D.int)) x14), none, none, none, none, none, none, none, none, none, none]) (s_forp (ex := (eP2 D.int (eO D.int))) (s0 := x4) (it_enL (e := (eO D.int)) (xs := x2) rfl) (fun x5 : (List (Option Int)) => [some ((eT (eT D.int)) x1), some ((eL (eO D.int)) x2), some ((eL (eO D.int)) x5), none, none, none, none, none, none, none, none, none, none]) (fun (x5 : (List (Option Int))) (x6 : (Int × (Option Int))) => [some ((eT (eT D.int)) x1), some ((eL (eO D.int)) x2), some ((eL (eO D.int)) x5), none, none, none, none, none, some (D.int x6.1), some ((eO D.int) x6.2), none, none, none]) rfl (fun _ _ => rfl) fun x5 x6 =>
  (t_seq fin_L (fun x13 : ((List (Option Int)) × (Option Int)) => [some ((eT (eT D.int)) x1), some ((eL (eO D.int)) x2), some ((eL (eO D.int)) x13.1), none, none, none, none, none, some (D.int x6.1), some ((eO D.int) x13.2), none, none, none]) (s_if (o' := (fun s : ((List (Option Int)) × (Option Int)) => Fl.nx [some ((eT (eT D.int)) x1), some ((eL (eO D.int)) x2), some ((eL (eO D.int)) s.1), none, none, none, none, none, some (D.int x6.1), some ((eO D.int) s.2), none, none, none])) (t_ifC (x := x6.2) (fun z : (Option Int) => [some ((eT (eT D.int)) x1), some ((eL (eO D.int)) x2), some ((eL (eO D.int)) x5), none, none, none, none, none, some (D.int x6.1), some ((eO D.int) z), none, none, none]) (t_ifF rfl (t_nextS (t_next rfl))) fun x11 => (t_ifT rfl (t_seq fin_S (fun x12 : (List (Option Int)) => [some ((eT (eT D.int)) x1), some ((eL (eO D.int)) x2), some ((eL (eO D.int)) x12), none, none, none, none, none, some (D.int x6.1), some (D.int x11), none, none, none]) (s_setIx (e := (eO D.int)) (xs := x5) (d := (some x6.1)) (fun ys : (List (Option Int)) => [some ((eT (eT D.int)) x1), some ((eL (eO D.int)) x2), some ((eL (eO D.int)) ys), none, none, none, none, none, some (D.int x6.1), some (D.int x11), none, none, none]) rfl rfl rfl fun _ => rfl) fun x12 =>
  (t_next rfl))))) fun x13 =>
  (t_next rfl))) fun x14 =>
  (t_seq fin_F (fun x16 : (List Int) => [some ((eT (eT D.int)) x1), some ((eL (eO D.int)) x2), some ((eL (eO D.int)) x14), some ((eL D.int) x16), none, none, none, none, none, none, none, none, none]) (s_set (e := (eL D.int)) _ (rf_lcp (it_enL (e := (eO D.int)) (xs := x14) rfl) (fun x15 : (Int × (Option Int)) => [some ((eT (eT D.int)) x1), some ((eL (eO D.int)) x2), some ((eL (eO D.int)) x14), none, none, none, none, none, some ((eO D.int) x15.2), none, none, some (D.int x15.1), none]) (fun _ => rfl) (fun x15 => (rf_ok (e := fun b => b) (evB (ev1 rfl (op_isN fun _ => rfl))))) (fun x15 => (rf_ok (e := D.int) rfl))) fun _ => rfl) fun x16 =>
  (t_seq fin_F (fun x17 : (List (Int × (Option Int))) => [some ((eT (eT D.int)) x1), some ((eL (eO D.int)) x2), some ((eL (eO D.int)) x14), some ((eL D.int) x16), some ((eDk kI (eO D.int)) x17), none, none, none, none, none, none, none, none]) (s_set (e := (eDk kI (eO D.int))) _ (q_on (a_p rfl (a_p rfl (a_p rfl (a_0 (rf_chk (n_reached_goals_tti_loi_li x1 x2 x16) rfl)))))) fun _ => rfl) fun x17 =>
  (t_seq fin_F (fun x20 : (List (Int × Bool)) => [some ((eT (eT D.int)) x1), some ((eL (eO D.int)) x2), some ((eL (eO D.int)) x14), some ((eL D.int) x16), some ((eDk kI (eO D.int)) x17), some ((eDk kI D.bl) x20), none, none, none, none, none, none, none]) (s_set (e := (eDk kI D.bl)) _ (rf_dcp kd_I inj_kI (it_Ky (e := (eO D.int)) rfl) (fun x19 : Int => [some ((eT (eT D.int)) x1), some ((eL (eO D.int)) x2), some ((eL (eO D.int)) x14), some ((eL D.int) x16), some ((eDk kI (eO D.int)) x17), none, none, none, some (D.int x19), none, none, none, none]) (fun _ => rfl) (fun x19 => (rf_ok (v := true) rfl)) (fun x19 => (rf_unOI (q_f2 (b_p rfl (b_p rfl op_ixL))))) (fun x19 => (rf_ok (e := D.bl) rfl))) fun _ => rfl) fun x20 =>
  (t_seq fin_F (fun x23 : (List Int) => [some ((eT (eT D.int)) x1), some ((eL (eO D.int)) x2), some ((eL (eO D.int)) x14), some ((eL D.int) x16), some ((eDk kI (eO D.int)) x17), some ((eDk kI D.bl) x20), some ((eT D.int) x23), none, none, none, none, none, none]) (s_set (e := (eT D.int)) _ (q_on (a_i (rf_lcp (it_enL (e := (eO D.int)) (xs := x14) rfl) (fun x21 : (Int × (Option Int)) => [some ((eT (eT D.int)) x1), some ((eL (eO D.int)) x2), some ((eL (eO D.int)) x14), some ((eL D.int) x16), some ((eDk kI (eO D.int)) x17), some ((eDk kI D.bl) x20), none, none, some ((eO D.int) x21.2), none, none, none, some (D.int x21.1)]) (fun _ => rfl) (fun x21 => (rf_ok (e := fun b => b) (evAnd (evB (ev1 rfl (op_not1 (op_isN fun _ => rfl)))) (evNx (evB (ev2 rfl rfl (op_dhasDN kd_I inj_kI))))))) (fun x21 => (rf_ok (e := D.int) rfl))) fun x22 => (a_0 (rf_ok rfl)))) fun _ => rfl) fun x23 =>
  (t_seq fin_F (fun x27 : (List Int) => [some ((eT (eT D.int)) x1), some ((eL (eO D.int)) x2), some ((eL (eO D.int)) x14), some ((eL D.int) x16), some ((eDk kI (eO D.int)) x17), some ((eDk kI D.bl) x20), some ((eT D.int) x23), some ((eT D.int) x27), none, none, none, none, none]) (s_set (e := (eT D.int)) _ (q_on (a_i (q_on (a_p rfl (a_0 (op_sortK (e := (eO D.int)))))) fun x26 => (a_0 (rf_ok rfl)))) fun _ => rfl) fun x27 =>
  (t_end (t_retF (q_on (a_p rfl (a_p (ev2 (evOn (evA rfl rfl) op_lenT) (evOn (evA rfl rfl) op_lenL) rfl) (a_p rfl (a_p rfl (a_0 (rf_chk (n_Matching_init_toi_i_ti_ti x14 ((x1.length : Int) - (x16.length : Int)) x23 x27) rfl)))))))))))))))))))
def N_perfect_partners_lli (a0 : (List (List Int))) : Res (Option (List (Option Int))) :=
  ((N_greatest_matching_lli a0).bind fun x1 =>
  (if (decide (x1.2.1 < (x1.1.length : Int))) = true then (Res.ok none) else
  (Res.ok (some x1.1))))
theorem n_perfect_partners_lli (a0 : (List (List Int))) : Rf (m_perfect_partners [(eL (eL D.int)) a0]) (N_perfect_partners_lli a0) (eO (eT (eO D.int))) :=
  n_runF ((t_seq fin_F (fun x1 : ((List (Option Int)) × Int × (List Int) × (List Int)) => [some ((eL (eL D.int)) a0), some ((eOb4 "Matching" "partners" "count" "senders" "goals" (eT (eO D.int)) D.int (eT D.int) (eT D.int)) x1)]) (s_set (e := (eOb4 "Matching" "partners" "count" "senders" "goals" (eT (eO D.int)) D.int (eT D.int) (eT D.int))) _ (q_on (a_p rfl (a_0 (rf_chk (n_greatest_matching_lli a0) rfl)))) fun _ => rfl) fun x1 =>
  (t_if (evB (ev2 (ev1 rfl (fld_skip (by decide) fld_hit)) (evOn (evA (ev1 rfl fld_hit) rfl) op_lenT) rfl)) (t_retF (rf_ok (e := (eO (eT (eO D.int)))) rfl))
  (t_nextS (t_end (t_retF (rf_ok (e := (eO (eT (eO D.int)))) (ev1 rfl fld_hit))))))))
def N_parted_lli (a0 : (List (List Int))) : Res (List (List Int)) :=
  ((N_frozen_lli a0).bind fun x1 =>
  ((N_check_square_tti x1).bind fun x2 =>
  ((lcR x1 (fun x3 => Res.ok true) (fun x3 => (Res.ok x3))).bind fun x4 =>
  (((((ixR x1 0).bind fun x5 => (Res.ok x5.sum)).bind fun x6 => (rngR x6)).bind fun x23 => (forR (σ := ((List (List Int)) × (List (List Int)))) (fun x7 x8 => ((nx (((lcR x7.1 (fun x9 => Res.ok true) (fun x9 => (lcR (enumI 0 x9) (fun x10 => Res.ok (decide (0 < x10.2))) (fun x10 => (Res.ok x10.1))))).bind fun x11 => (N_perfect_partners_lli x11)).bind fun x12 => nx (unOTO x12))).bind fun x13 =>
  ((appR x7.2 x13).bind fun x14 =>
  ((forR (σ := (List (List Int))) (fun x15 x16 => (((Res.ok x16.1).bind fun x17 => (nx (Res.ok x16.2)).bind fun x18 => (nx (Res.ok 1)).bind fun x19 => aug2R x15 x17 x18 fun x20 => x20 - x19).bind fun x21 =>
  Res.ok x21)) (enumI 0 x13) x7.1).bind fun x22 =>
  Res.ok (x22, x14))))) x23 (x4, []))).bind fun x24 =>
  (Res.ok x24.2)))))
theorem n_parted_lli (a0 : (List (List Int))) : Rf (m_parted [(eL (eL D.int)) a0]) (N_parted_lli a0) (eT (eT D.int)) :=
  n_runF ((t_seq fin_F (fun x1 : (List (List Int)) => [some ((eT (eT D.int)) x1), none, none, none, none, none, none, none, none]) (s_set (e := (eT (eT D.int))) _ (q_on (a_p rfl (a_0 (rf_chk (n_frozen_lli a0) rfl)))) fun _ => rfl) fun x1 =>
  (t_seq fin_F (fun x2 : Unit => [some ((eT (eT D.int)) x1), none, none, none, none, none, none, none, none]) (s_drop (e := eN) (q_on (a_p rfl (a_0 (rf_chk (n_check_square_tti x1) rfl))))) fun x2 =>
  (t_seq fin_F (fun x4 : (List (List Int)) => [some ((eT (eT D.int)) x1), some ((eL (eL D.int)) x4), none, none, none, none, none, none, none]) (s_set (e := (eL (eL D.int))) _ (rf_lcp (it_T (e := (eT D.int)) (xs := x1) rfl) (fun x3 : (List Int) => [some ((eT (eT D.int)) x1), none, none, none, none, some ((eT D.int) x3), none, none, none]) (fun _ => rfl) (fun x3 => (rf_ok (v := true) rfl)) (fun x3 => (rf_ok (e := (eL D.int)) rfl))) fun _ => rfl) fun x4 =>
  (t_seqp [some ((eT (eT D.int)) x1), some ((eL (eL D.int)) x4), some ((eL (eT D.int)) []), none, none, none, none, none, none] (set_p rfl rfl) (t_seq fin_F (fun x24 : ((List (List Int)) × (List (List Int))) => [some ((eT (eT D.int)) x1), some ((eL (eL D.int)) x24.1), some ((eL (eT D.int)) x24.2), none, none, none, none, none, none]) (s_for (ex := D.int) (s0 := (x4, [])) (q_R1 (a_i (q_on (a_i (q_f2 (b_p rfl (b_p rfl op_ixT))) fun x5 => (a_0 (rf_ok op_sumBT)))) fun x6 => (a_0 k_R1))) (fun x7 : ((List (List Int)) × (List (List Int))) => [some ((eT (eT D.int)) x1), some ((eL (eL D.int)) x7.1), some ((eL (eT D.int)) x7.2), none, none, none, none, none, none]) (fun (x7 : ((List (List Int)) × (List (List Int)))) (x8 : Int) => [some ((eT (eT D.int)) x1), some ((eL (eL D.int)) x7.1), some ((eL (eT D.int)) x7.2), some (D.int x8), none, none, none, none, none]) rfl (fun _ _ => rfl) fun x7 x8 =>
  (t_assoc (t_seq fin_L (fun x13 : (List Int) => [some ((eT (eT D.int)) x1), some ((eL (eL D.int)) x7.1), some ((eL (eT D.int)) x7.2), some (D.int x8), some ((eT D.int) x13), none, none, none, none]) (s_set (e := (eT D.int)) _ (rNl (rf_cvt (cvtOTO (e := D.int)) (q_on (a_i (rf_lcp (it_L (e := (eL D.int)) (xs := x7.1) rfl) (fun x9 : (List Int) => [some ((eT (eT D.int)) x1), some ((eL (eL D.int)) x7.1), some ((eL (eT D.int)) x7.2), some (D.int x8), none, some ((eL D.int) x9), none, none, none]) (fun _ => rfl) (fun x9 => (rf_ok (v := true) rfl)) (fun x9 => (rf_lcp (it_enL (e := D.int) (xs := x9) rfl) (fun x10 : (Int × Int) => [some ((eT (eT D.int)) x1), some ((eL (eL D.int)) x7.1), some ((eL (eT D.int)) x7.2), some (D.int x8), none, some ((eL D.int) x9), none, some (D.int x10.1), some (D.int x10.2)]) (fun _ => rfl) (fun x10 => (rf_ok (e := fun b => b) rfl)) (fun x10 => (rf_ok (e := D.int) rfl))))) fun x11 => (a_0 (rf_chk (n_perfect_partners_lli x11) rfl))))) (nl_T nl_int)) fun _ => rfl) fun x13 =>
  (t_assoc (t_seq fin_L (fun x14 : (List (List Int)) => [some ((eT (eT D.int)) x1), some ((eL (eL D.int)) x7.1), some ((eL (eT D.int)) x14), some (D.int x8), some ((eT D.int) x13), none, none, none, none]) (s_app (e := (eT D.int)) (xs := x7.2) (d := x13) (fun ys : (List (List Int)) => [some ((eT (eT D.int)) x1), some ((eL (eL D.int)) x7.1), some ((eL (eT D.int)) ys), some (D.int x8), some ((eT D.int) x13), none, none, none, none]) rfl rfl fun _ => rfl) fun x14 =>
  (t_seq fin_L (fun x22 : (List (List Int)) => [some ((eT (eT D.int)) x1), some ((eL (eL D.int)) x22), some ((eL (eT D.int)) x14), some (D.int x8), some ((eT D.int) x13), none, none, none, none]) (s_forp (ex := (eP2 D.int D.int)) (s0 := x7.1) (it_enT (e := D.int) (xs := x13) rfl) (fun x15 : (List (List Int)) => [some ((eT (eT D.int)) x1), some ((eL (eL D.int)) x15), some ((eL (eT D.int)) x14), some (D.int x8), some ((eT D.int) x13), none, none, none, none]) (fun (x15 : (List (List Int))) (x16 : (Int × Int)) => [some ((eT (eT D.int)) x1), some ((eL (eL D.int)) x15), some ((eL (eT D.int)) x14), some (D.int x8), some ((eT D.int) x13), none, some (D.int x16.1), some (D.int x16.2), none]) rfl (fun _ _ => rfl) fun x15 x16 =>
  (t_seq fin_L (fun x21 : (List (List Int)) => [some ((eT (eT D.int)) x1), some ((eL (eL D.int)) x21), some ((eL (eT D.int)) x14), some (D.int x8), some ((eT D.int) x13), none, some (D.int x16.1), some (D.int x16.2), none]) (s_aug2 (gi := fun i j => i - j) (xs := x15) (fun ys : (List (List Int)) => [some ((eT (eT D.int)) x1), some ((eL (eL D.int)) ys), some ((eL (eT D.int)) x14), some (D.int x8), some ((eT D.int) x13), none, some (D.int x16.1), some (D.int x16.2), none]) rfl (rf_ok (e := D.int) rfl) (rf_ok (e := D.int) rfl) (rf_ok (e := D.int) rfl) fun _ => rfl) fun x21 =>
  (t_next rfl))) fun x22 =>
  (t_next rfl))))))) fun x24 =>
  (t_end (t_retF (rf_ok (e := (eT (eT D.int))) rfl)))))))))
def N_parted_tti (a0 : (List (List Int))) : Res (List (List Int)) :=
  ((N_frozen_tti a0).bind fun x1 =>
  ((N_check_square_tti x1).bind fun x2 =>
  ((lcR x1 (fun x3 => Res.ok true) (fun x3 => (Res.ok x3))).bind fun x4 =>
  (((((ixR x1 0).bind fun x5 => (Res.ok x5.sum)).bind fun x6 => (rngR x6)).bind fun x23 => (forR (σ := ((List (List Int)) × (List (List Int)))) (fun x7 x8 => ((nx (((lcR x7.1 (fun x9 => Res.ok true) (fun x9 => (lcR (enumI 0 x9) (fun x10 => Res.ok (decide (0 < x10.2))) (fun x10 => (Res.ok x10.1))))).bind fun x11 => (N_perfect_partners_lli x11)).bind fun x12 => nx (unOTO x12))).bind fun x13 =>
  ((appR x7.2 x13).bind fun x14 =>
  ((forR (σ := (List (List Int))) (fun x15 x16 => (((Res.ok x16.1).bind fun x17 => (nx (Res.ok x16.2)).bind fun x18 => (nx (Res.ok 1)).bind fun x19 => aug2R x15 x17 x18 fun x20 => x20 - x19).bind fun x21 =>
  Res.ok x21)) (enumI 0 x13) x7.1).bind fun x22 =>
  Res.ok (x22, x14))))) x23 (x4, []))).bind fun x24 =>
  (Res.ok x24.2)))))
end Kx
namespace Kx
open PySem PySem.Spec L2 Da
def F_law_day27 : FS := (fSeq (fSet 2 (fLc [4] (fR1 (fA (fV 0) fA0)) (gN 4) fYes (fV 4)))
    (fSeq (fSet 3 (fOn gLstD fA0))
    (fSeq (fFor (fR1 (fA (fV 0) fA0)) (gN 4) (fFgt [4] (fAppX 3 (fPop 2 (f2 dMod (fOn (on1 dInt) (fA (f2 dIx (fV 1) (fV 4)) fA0)) (fSc (fOn (on1 dLen) (fA (fV 2) fA0))))))))
    (fRet (fV 3)))))
def m_law_day27 : List D → Res D := runF 5 .ow F_law_day27
def F_law_drawn_legs : FS := (fSeq (fSet 5 (fLc [10] (fR1 (fA (fC (.int 3)) fA0)) (gN 10) fYes (fLc [11] (fR1 (fA (f2 dMul (fV 0) (fV 1)) fA0)) (gN 11) fYes (fC (.int 0)))))
    (fSeq (fFor (fR1 (fA (fV 1) fA0)) (gN 6) (fFgt [6, 7, 8, 9] (fSeq (fSet 8 (fOn (chk 2 m_law_day27) (fA (fV 0) (fA (fCut dCut (fV 2) (fSoI (f2 dMul (fV 0) (fV 6))) fNoI) fA0))))
    (fSeq (fSet 9 (fOn (chk 2 m_law_day27) (fA (fV 0) (fA (fCut dCut (fV 4) (fSoI (f2 dMul (fV 0) (fV 6))) fNoI) fA0))))
    (fFor (fR1 (fA (fV 0) fA0)) (gN 7) (fFgt [7] (fSeq (fSet2 5 (f2 dAdd (f2 dMul (f2 dIx (fV 8) (fV 7)) (fV 1)) (fV 6)) (fC (.int 0)) (f2 dAdd (f2 dMul (fV 7) (fV 1)) (fV 6)))
    (fSet2 5 (f2 dAdd (f2 dMul (f2 dIx (fV 9) (fV 7)) (fV 1)) (fV 6)) (fC (.int 2)) (f2 dAdd (f2 dMul (fV 7) (fV 1)) (fV 6))))))))))
    (fSeq (fFor (fR1 (fA (fV 0) fA0)) (gN 7) (fFgt [6, 7, 8] (fSeq (fSet 8 (fOn (chk 2 m_law_day27) (fA (fV 1) (fA (fCut dCut (fV 3) (fSoI (f2 dMul (fV 1) (fV 7))) fNoI) fA0))))
    (fFor (fR1 (fA (fV 1) fA0)) (gN 6) (fFgt [6] (fSet2 5 (f2 dAdd (f2 dMul (fV 7) (fV 1)) (f2 dIx (fV 8) (fV 6))) (fC (.int 1)) (f2 dAdd (f2 dMul (fV 7) (fV 1)) (fV 6))))))))
    (fRet (fV 5)))))
def m_law_drawn_legs : List D → Res D := runF 12 .sh F_law_drawn_legs
def F_law_composed : FS := (fRet (fLc [1] (fL (f2 dIx (fV 0) (fC (.int 0)))) (gN 1) fYes (f2 dIx (f2 dIx (fV 0) (fC (.int 2))) (f2 dIx (f2 dIx (fV 0) (fC (.int 1))) (fV 1)))))
def m_law_composed : List D → Res D := runF 2 .ow F_law_composed
def F_column_square : FS := (fSeq (fSet 3 (fLc [5] (fR1 (fA (fV 1) fA0)) (gN 5) fYes (fLc [6] (fR1 (fA (fV 1) fA0)) (gN 6) fYes (fC (.int 0)))))
    (fSeq (fFor (fR1 (fA (f2 dMul (fV 0) (fV 1)) fA0)) (gN 4) (fFgt [4] (fAug2 3 (fun i j => i + j) (fC (.int 1)) (f2 dMod (fV 4) (fV 1)) (f2 dMod (f2 dIx (fV 2) (fV 4)) (fV 1)))))
    (fRet (fV 3))))
def m_column_square : List D → Res D := runF 7 .sh F_column_square
def F_chosen_rows : FS := (fSeq (fSet 3 (fLc [6] (fR1 (fA (f2 dMul (fV 0) (fV 1)) fA0)) (gN 6) fYes (fC .non)))
    (fSeq (fFor (fEnum (fA (fOn (chk 1 m_parted) (fA (fOn (chk 3 m_column_square) (fA (fV 0) (fA (fV 1) (fA (fV 2) fA0)))) fA0)) fA0)) (gT (gsC (gN 4) (gsC (gN 5) gs0))) (fFgt [4, 5, 6, 7, 8, 9] (fFor (fEnum (fA (fV 5) fA0)) (gT (gsC (gN 7) (gsC (gN 8) gs0))) (fFgt [6, 7, 8, 9] (fFor (fR1 (fA (fV 0) fA0)) (gN 9) (fFgt [6, 9] (fSeq (fSet 6 (f2 dAdd (f2 dMul (fV 9) (fV 1)) (fV 7)))
    (fIfS (fAnd (fB (f1 dIsN (f2 dIx (fV 3) (fV 6)))) (fB (f2 dEq (f2 dMod (f2 dIx (fV 2) (fV 6)) (fV 1)) (fV 8)))) (fSeq (fSetIx 3 (fV 4) (fV 6))
    fBrk) fNext))))))))
    (fRet (fV 3))))
def m_chosen_rows : List D → Res D := runF 10 .ow F_chosen_rows
def F_three_legs : FS := (fSeq (fSet 2 (fOn (chk 1 m_frozen) (fA (fV 2) fA0)))
    (fSeq (fSet 3 (fOn (chk 3 m_chosen_rows) (fA (fV 0) (fA (fV 1) (fA (fV 2) fA0)))))
    (fSeq (fSet 4 (fLc [7] (fL (fV 2)) (gN 7) fYes (fC (.int 0))))
    (fSeq (fSet 5 (fLc [7] (fL (fV 2)) (gN 7) fYes (fC (.int 0))))
    (fSeq (fSet 6 (fLc [7] (fL (fV 2)) (gN 7) fYes (fC (.int 0))))
    (fSeq (fFor (fEnum (fA (fV 2) fA0)) (gT (gsC (gN 7) (gsC (gN 8) gs0))) (fFgt [7, 8, 9, 10] (fSeq (fSet 9 (f2 dAdd (f2 dMul (f2 dIx (fV 3) (fV 7)) (fV 1)) (f2 dMod (fV 7) (fV 1))))
    (fSeq (fSet 10 (f2 dAdd (f2 dMul (f2 dIx (fV 3) (fV 7)) (fV 1)) (f2 dMod (fV 8) (fV 1))))
    (fSeq (fSetIx 4 (fV 9) (fV 7))
    (fSeq (fSetIx 5 (fV 10) (fV 9))
    (fSetIx 6 (fV 8) (fV 10))))))))
    (fRet (fOn gTupD (fA (fOn (on1 dTuple) (fA (fV 4) fA0)) (fA (fOn (on1 dTuple) (fA (fV 5) fA0)) (fA (fOn (on1 dTuple) (fA (fV 6) fA0)) fA0)))))))))))
def m_three_legs : List D → Res D := runF 11 .sh F_three_legs
def F_law_renumbered : FS := (fSeq (fSet 3 (fLc [6] (fR1 (fA (fC (.int 3)) fA0)) (gN 6) fYes (fLc [4] (fL (f2 dIx (fV 0) (fC (.int 0)))) (gN 4) fYes (fC (.int 0)))))
    (fSeq (fFor (fR1 (fA (fOn (on1 dLen) (fA (f2 dIx (fV 0) (fC (.int 0))) fA0)) fA0)) (gN 4) (fFgt [4, 5] (fSeq (fSet 5 (f2 dAdd (f2 dMul (f2 dIx (fV 2) (f2 dDiv (fV 4) (fV 1))) (fV 1)) (f2 dMod (fV 4) (fV 1))))
    (fSeq (fSet2 3 (f2 dAdd (f2 dMul (f2 dIx (fV 2) (f2 dDiv (f2 dIx (f2 dIx (fV 0) (fC (.int 0))) (fV 4)) (fV 1))) (fV 1)) (f2 dMod (fOn (on1 dInt) (fA (f2 dIx (f2 dIx (fV 0) (fC (.int 0))) (fV 4)) fA0)) (fV 1))) (fC (.int 0)) (fV 4))
    (fSeq (fSet2 3 (f2 dAdd (f2 dMul (f2 dIx (fV 2) (f2 dDiv (f2 dIx (f2 dIx (fV 0) (fC (.int 1))) (fV 4)) (fV 1))) (fV 1)) (f2 dMod (fOn (on1 dInt) (fA (f2 dIx (f2 dIx (fV 0) (fC (.int 1))) (fV 4)) fA0)) (fV 1))) (fC (.int 1)) (fV 5))
    (fSet2 3 (f2 dIx (f2 dIx (fV 0) (fC (.int 2))) (fV 4)) (fC (.int 2)) (fV 5)))))))
    (fRet (fV 3))))
def m_law_renumbered : List D → Res D := runF 7 .sh F_law_renumbered
def F_law_rerouted : FS := (fSeq (fSet 4 (fLc [5] (fL (fV 0)) (gN 5) fYes (fOn (on1 dList) (fA (fV 5) fA0))))
    (fSeq (fSet2 4 (fV 3) (fV 1) (fIdx (f2 dIx (fV 0) (fV 1)) (fV 2)))
    (fSeq (fSet2 4 (fV 2) (fV 1) (fIdx (f2 dIx (fV 0) (fV 1)) (fV 3)))
    (fSeq (fSet2 4 (f2 dIx (f2 dIx (fV 0) (f2 dAdd (fV 1) (fC (.int 1)))) (fV 3)) (f2 dAdd (fV 1) (fC (.int 1))) (fV 2))
    (fSeq (fSet2 4 (f2 dIx (f2 dIx (fV 0) (f2 dAdd (fV 1) (fC (.int 1)))) (fV 2)) (f2 dAdd (fV 1) (fC (.int 1))) (fV 3))
    (fRet (fV 4)))))))
def m_law_rerouted : List D → Res D := runF 6 .sh F_law_rerouted
def F_law_swapped : FS := (fSeq (fSet 4 (fLc [5] (fL (fV 0)) (gN 5) fYes (fOn (on1 dList) (fA (fV 5) fA0))))
    (fSeq (fSet2 4 (f2 dIx (f2 dIx (fV 0) (fV 1)) (fV 3)) (fV 1) (fV 2))
    (fSeq (fSet2 4 (f2 dIx (f2 dIx (fV 0) (fV 1)) (fV 2)) (fV 1) (fV 3))
    (fRet (fV 4)))))
def m_law_swapped : List D → Res D := runF 6 .sh F_law_swapped
def F_law_replaced : FS := (fSeq (fSet 3 (fLc [4] (fL (fV 0)) (gN 4) fYes (fOn (on1 dList) (fA (fV 4) fA0))))
    (fSeq (fSetIx 3 (fOn (on1 dList) (fA (fV 2) fA0)) (fV 1))
    (fRet (fV 3))))
def m_law_replaced : List D → Res D := runF 5 .ow F_law_replaced
def F_law_papers : FS := (fSeq (fSet 7 (fOn (on1 dLen) (fA (fV 1) fA0)))
    (fSeq (fSet 8 (fLc [13] (fR1 (fA (fV 7) fA0)) (gN 13) fYes (fV 13)))
    (fSeq (fSet 9 (fOn (on1 dList) (fA (f2 dIx (fV 0) (fV 2)) fA0)))
    (fSeq (fSetIx 9 (f2 dIx (f2 dIx (fV 0) (fV 2)) (fV 4)) (fV 3))
    (fSeq (fSet 10 (fLc [14] (fL (f2 dIx (fV 0) (fV 2))) (gN 14) fYes (f2 dIx (fOn gLstD (fA (fV 14) (fA (f1 dNeg (fC (.int 1))) fA0))) (fOn (on1 dInt) (fA (f2 dEq (fV 14) (f2 dSub (fV 7) (fC (.int 1)))) fA0)))))
    (fSeq (fSet 11 (fOn (on1 dList) (fA (f2 dIx (fV 0) (fV 2)) fA0)))
    (fSeq (fSetIx 11 (fV 6) (fV 5))
    (fSeq (fSet 12 (fOn gLstD (fA (fV 0) (fA (fOn gLstD (fA (f2 dIx (fV 0) (fC (.int 2))) (fA (f2 dIx (fV 0) (fC (.int 1))) (fA (f2 dIx (fV 0) (fC (.int 0))) fA0)))) (fA (fOn gLstD (fA (fV 8) (fA (fV 1) (fA (fV 8) fA0)))) (fA (fOn gLstD (fA (fV 1) (fA (fV 8) (fA (fV 8) fA0)))) (fA (fOn gLstD (fA (fV 8) (fA (fV 8) (fA (fV 1) fA0)))) fA0)))))))
    (fSeq (fSet 12 (f2 dAddL (fV 12) (fOn gLstD (fA (fOn (chk 4 m_law_rerouted) (fA (fV 0) (fA (fC (.int 0)) (fA (fV 3) (fA (fV 5) fA0))))) (fA (fOn (chk 4 m_law_rerouted) (fA (fV 0) (fA (fC (.int 0)) (fA (fV 3) (fA (fV 4) fA0))))) (fA (fOn (chk 4 m_law_rerouted) (fA (fV 0) (fA (fC (.int 1)) (fA (fV 3) (fA (fV 5) fA0))))) fA0))))))
    (fSeq (fSet 12 (f2 dAddL (fV 12) (fOn gLstD (fA (fOn (chk 4 m_law_rerouted) (fA (fV 0) (fA (fC (.int 1)) (fA (fV 3) (fA (fV 4) fA0))))) (fA (fOn (chk 4 m_law_swapped) (fA (fV 0) (fA (fC (.int 0)) (fA (fV 3) (fA (fV 4) fA0))))) (fA (fOn (chk 4 m_law_swapped) (fA (fV 0) (fA (fC (.int 1)) (fA (fV 3) (fA (fV 5) fA0))))) fA0))))))
    (fSeq (fSet 12 (f2 dAddL (fV 12) (fOn gLstD (fA (fOn (chk 4 m_law_swapped) (fA (fV 0) (fA (fC (.int 2)) (fA (fV 3) (fA (fV 4) fA0))))) (fA (fOn (chk 3 m_law_replaced) (fA (fV 0) (fA (fV 2) (fA (fV 9) fA0)))) (fA (fOn (chk 3 m_law_replaced) (fA (fV 0) (fA (fV 2) (fA (fV 10) fA0)))) fA0))))))
    (fSeq (fSet 12 (f2 dAddL (fV 12) (fOn gLstD (fA (fOn (chk 3 m_law_replaced) (fA (fV 0) (fA (fV 2) (fA (fV 11) fA0)))) (fA (fOn (chk 3 m_law_replaced) (fA (fV 0) (fA (fV 2) (fA (fCut dCut (f2 dIx (fV 0) (fV 2)) fNoI (fSoI (f2 dSub (fV 7) (fC (.int 1))))) fA0)))) fA0)))))
    (fRet (f2 dAddL (fV 12) (fOn gLstD (fA (fOn (chk 3 m_law_replaced) (fA (fV 0) (fA (fV 2) (fA (f2 dAddL (f2 dIx (fV 0) (fV 2)) (fOn gLstD (fA (fV 7) fA0))) fA0)))) (fA (fOn (chk 3 m_law_replaced) (fA (fV 0) (fA (fV 2) (fA (f2 dAddL (f2 dIx (fV 0) (fV 2)) (fOn gLstD (fA (fV 3) fA0))) fA0)))) fA0)))))))))))))))))
def m_law_papers : List D → Res D := runF 15 .ow F_law_papers
def F_law_right : FS := (fSeq (fSet 4 (f2 dMul (fV 0) (fV 1)))
    (fSeq (fFor (fL (fV 3)) (gN 5) (fFgt [5] (fIfS (fOr (fB (f2 dNe (fOn (on1 dLen) (fA (fV 5) fA0)) (fV 4))) (fB (f2 dNe (fOn (on1 dSorted) (fA (fV 5) fA0)) (fLc [10] (fR1 (fA (fV 4) fA0)) (gN 10) fYes (fV 10))))) (fRet (fC (.bl false))) fNext)))
    (fSeq (fFor (fR1 (fA (fV 4) fA0)) (gN 6) (fFgt [6, 7, 8, 9] (fSeq (fSet 7 (fOn (on1 dInt) (fA (f2 dIx (f2 dIx (fV 3) (fC (.int 0))) (fV 6)) fA0)))
    (fSeq (fSet 8 (fOn (on1 dInt) (fA (f2 dIx (f2 dIx (fV 3) (fC (.int 1))) (fV 7)) fA0)))
    (fSeq (fSet 9 (fOn (on1 dInt) (fA (f2 dIx (f2 dIx (fV 3) (fC (.int 2))) (fV 8)) fA0)))
    (fSeq (fIfS (fOr (fB (f2 dNe (f2 dMod (fV 7) (fV 1)) (f2 dMod (fV 6) (fV 1)))) (fB (f2 dNe (f2 dDiv (fV 8) (fV 1)) (f2 dDiv (fV 7) (fV 1))))) (fRet (fC (.bl false))) fNext)
    (fIfS (fOr (fB (f2 dNe (f2 dMod (fV 9) (fV 1)) (f2 dMod (fV 8) (fV 1)))) (fB (f2 dNe (fV 9) (f2 dIx (fV 2) (fV 6))))) (fRet (fC (.bl false))) fNext)))))))
    (fRet (fC (.bl true))))))
def m_law_right : List D → Res D := runF 11 .sh F_law_right
def F_keeps : FS := (fSeq (fIfS (fB (f2 dEq (fV 2) (fC (.int 0)))) (fRet (fOn (on1 dAll) (fA (fLc [3, 4] (fEnum (fA (fV 0) fA0)) (gT (gsC (gN 3) (gsC (gN 4) gs0))) fYes (f2 dEq (f2 dDiv (fV 3) (fV 1)) (f2 dDiv (fV 4) (fV 1)))) fA0))) fNext)
    (fRet (fOn (on1 dAll) (fA (fLc [3, 4] (fEnum (fA (fV 0) fA0)) (gT (gsC (gN 3) (gsC (gN 4) gs0))) fYes (f2 dEq (f2 dMod (fV 3) (fV 1)) (f2 dMod (fV 4) (fV 1)))) fA0))))
def m_keeps : List D → Res D := runF 5 .sh F_keeps
def F_is_perm : FS := (fSeq (fSet 0 (fOn (chk 1 m_frozen) (fA (fV 0) fA0)))
    (fSeq (fIfS (fOr (fB (f2 dNe (fOn (on1 dLen) (fA (fV 0) fA0)) (fV 1))) (fNot (fTr (fOn (on1 dAll) (fA (fLc [2] (fL (fV 0)) (gN 2) fYes (fOn (chk 1 m_is_number) (fA (fV 2) fA0))) fA0))))) (fRet (fC (.bl false))) fNext)
    (fRet (f2 dEq (fOn (on1 dSorted) (fA (fV 0) fA0)) (fListR1 (fV 1))))))
def m_is_perm : List D → Res D := runF 3 .sh F_is_perm
def F_is_day : FS := (fRet (fOn (chk 2 m_is_perm) (fA (fV 0) (fA (fV 1) fA0))))
def m_is_day : List D → Res D := runF 2 .sh F_is_day
def F_are_legs : FS := (fSeq (fSet 2 (fOn (chk 1 m_frozen) (fA (fV 2) fA0)))
    (fSeq (fAsg (fOn (chk 1 m_frozen) (fA (fV 3) fA0)) (gT (gsC (gN 4) (gsC (gN 5) (gsC (gN 6) gs0)))))
    (fSeq (fIfS (fNot (fTr (fOn (on1 dAll) (fA (fLc [7] (fL (fOn gTupD (fA (fV 4) (fA (fV 5) (fA (fV 6) fA0))))) (gN 7) fYes (fOn (chk 2 m_is_day) (fA (fV 7) (fA (f2 dMul (fV 0) (fV 1)) fA0)))) fA0)))) (fRet (fC (.bl false))) fNext)
    (fSeq (fIfS (fOr (fNot (fTr (fOn (chk 3 m_keeps) (fA (fV 4) (fA (fV 1) (fA (fC (.int 1)) fA0)))))) (fOr (fNot (fTr (fOn (chk 3 m_keeps) (fA (fV 5) (fA (fV 1) (fA (fC (.int 0)) fA0)))))) (fNot (fTr (fOn (chk 3 m_keeps) (fA (fV 6) (fA (fV 1) (fA (fC (.int 1)) fA0)))))))) (fRet (fC (.bl false))) fNext)
    (fRet (fOn (on1 dAll) (fA (fLc [8, 9] (fEnum (fA (fV 2) fA0)) (gT (gsC (gN 8) (gsC (gN 9) gs0))) fYes (f2 dEq (f2 dIx (fV 6) (f2 dIx (fV 5) (f2 dIx (fV 4) (fV 8)))) (fV 9))) fA0)))))))
def m_are_legs : List D → Res D := runF 10 .sh F_are_legs
def F_law_judged : FS := (fSeq (fSet 4 (fOn (chk 4 m_law_right) (fA (fV 0) (fA (fV 1) (fA (fV 2) (fA (fV 3) fA0))))))
    (fSeq (fSet 5 (fLc [8] (fL (fV 3)) (gN 8) fYes (fOn (on1 dList) (fA (fV 8) fA0))))
    (fSeq (fSet 6 (fOn (chk 4 m_are_legs) (fA (fV 0) (fA (fV 1) (fA (fOn (on1 dList) (fA (fV 2) fA0)) (fA (fV 5) fA0))))))
    (fSeq (fSet 7 (fOn (chk 4 m_are_legs) (fA (fV 0) (fA (fV 1) (fA (fOn (on1 dTuple) (fA (fV 2) fA0)) (fA (fOn gTupD (fA (fOn (on1 dTuple) (fA (f2 dIx (fV 3) (fC (.int 0))) fA0)) (fA (fOn (on1 dTuple) (fA (f2 dIx (fV 3) (fC (.int 1))) fA0)) (fA (fOn (on1 dTuple) (fA (f2 dIx (fV 3) (fC (.int 2))) fA0)) fA0)))) fA0))))))
    (fSeq (fIfS (fB (f2 dNe (fV 5) (fLc [8] (fL (fV 3)) (gN 8) fYes (fOn (on1 dList) (fA (fV 8) fA0))))) (fRet (fC (.bl false))) fNext)
    (fSeq (fIfS (fTr (fV 4)) (fRet (fBv (fAnd (fB (f1 (dIsB true) (fV 6))) (fB (f1 (dIsB true) (fV 7)))))) fNext)
    (fRet (fBv (fAnd (fB (f1 (dIsB false) (fV 6))) (fB (f1 (dIsB false) (fV 7))))))))))))
def m_law_judged : List D → Res D := runF 9 .sh F_law_judged
def F_law_papers_judged : FS := (fSeq (fSet 5 (f2 dMod (fOn (on1 dInt) (fA (f2 dIx (fV 4) (fC (.int 0))) fA0)) (fV 0)))
    (fSeq (fSet 6 (f2 dMod (fOn (on1 dInt) (fA (f2 dIx (fV 4) (fC (.int 1))) fA0)) (fV 1)))
    (fSeq (fSet 7 (f2 dAdd (f2 dMul (fV 5) (fV 1)) (fV 6)))
    (fSeq (fSet 8 (f2 dAdd (f2 dMul (f2 dMod (fOn (on1 dInt) (fA (f2 dAdd (f2 dAdd (fV 5) (fC (.int 1))) (f2 dMod (fOn (on1 dInt) (fA (f2 dIx (fV 4) (fC (.int 2))) fA0)) (fOn (on2 dMax2) (fA (fC (.int 1)) (fA (f2 dSub (fV 0) (fC (.int 1))) fA0))))) fA0)) (fV 0)) (fV 1)) (fV 6)))
    (fSeq (fSet 9 (f2 dAdd (f2 dMul (fV 5) (fV 1)) (f2 dMod (fOn (on1 dInt) (fA (f2 dAdd (f2 dAdd (fV 6) (fC (.int 1))) (f2 dMod (fOn (on1 dInt) (fA (f2 dIx (fV 4) (fC (.int 3))) fA0)) (fOn (on2 dMax2) (fA (fC (.int 1)) (fA (f2 dSub (fV 1) (fC (.int 1))) fA0))))) fA0)) (fV 1))))
    (fSeq (fSet 10 (f2 dIx (fOn gLstD (fA (f2 dIx (fV 4) (fC (.int 5))) (fA (f2 dSub (f1 dNeg (fC (.int 1))) (f2 dIx (fV 4) (fC (.int 5)))) (fA (f2 dMul (fV 0) (fV 1)) (fA (f2 dMod (fOn (on1 dInt) (fA (f2 dIx (fV 4) (fC (.int 5))) fA0)) (fC (.int 24))) fA0))))) (f2 dIx (fV 4) (fC (.int 4)))))
    (fSeq (fFor (fL (fOn (chk 7 m_law_papers) (fA (fV 3) (fA (fV 2) (fA (f2 dIx (fV 4) (fC (.int 6))) (fA (fV 7) (fA (fV 8) (fA (fV 9) (fA (fV 10) fA0))))))))) (gN 11) (fFgt [11] (fIfS (fNot (fTr (fOn (chk 4 m_law_judged) (fA (fV 0) (fA (fV 1) (fA (fV 2) (fA (fV 11) fA0))))))) (fRet (fC (.bl false))) fNext)))
    (fSeq (fIfS (fNot (fTr (fOn (chk 4 m_law_judged) (fA (fV 1) (fA (fV 0) (fA (fV 2) (fA (fV 3) fA0))))))) (fRet (fC (.bl false))) fNext)
    (fSeq (fSet 12 (fOn (on1 dList) (fA (fV 2) fA0)))
    (fSeq (fSetIx 12 (f2 dIx (fV 2) (fV 8)) (fV 7))
    (fSeq (fSetIx 12 (f2 dIx (fV 2) (fV 7)) (fV 8))
    (fRet (fOn (chk 4 m_law_judged) (fA (fV 0) (fA (fV 1) (fA (fV 12) (fA (fV 3) fA0)))))))))))))))))
def m_law_papers_judged : List D → Res D := runF 13 .sh F_law_papers_judged
def F_law_told_right : FS := (fSeq (fIfS (fOr (fNot (fTr (f1 (dIsi "tuple") (fV 3)))) (fB (f2 dNe (fOn (on1 dLen) (fA (fV 3) fA0)) (fC (.int 3))))) (fRet (fC (.bl false))) fNext)
    (fSeq (fFor (fL (fV 3)) (gN 4) (fFgt [4, 5] (fSeq (fIfS (fOr (fNot (fTr (f1 (dIsi "tuple") (fV 4)))) (fB (f2 dNe (fOn (on1 dLen) (fA (fV 4) fA0)) (f2 dMul (fV 0) (fV 1))))) (fRet (fC (.bl false))) fNext)
    (fFor (fL (fV 4)) (gN 5) (fFgt [5] (fIfS (fNot (fTr (fOn (chk 1 m_law_whole) (fA (fV 5) fA0)))) (fRet (fC (.bl false))) fNext))))))
    (fRet (fOn (chk 4 m_law_right) (fA (fV 0) (fA (fV 1) (fA (fV 2) (fA (fV 3) fA0))))))))
def m_law_told_right : List D → Res D := runF 6 .sh F_law_told_right
def F_law : FS := (fSeq (fSet 1 (fOn (chk 2 m_law_digits) (fA (fOn (chk 2 m_law_cell) (fA (fV 0) (fA (fC (.int 0)) fA0))) (fA (fOn gLstD (fA (fC (.int 22)) (fA (fC (.int 24)) (fA (fC (.int 24)) (fA (fC (.int 3)) fA0))))) fA0))))
    (fSeq (fSet 2 (f2 dAdd (fC (.int 1)) (f2 dIx (fV 1) (fC (.int 1)))))
    (fSeq (fSet 3 (f2 dAdd (fC (.int 1)) (f2 dMod (fOn (on1 dInt) (fA (f2 dIx (fV 1) (fC (.int 2))) fA0)) (f2 dDiv (fC (.int 24)) (fV 2)))))
    (fSeq (fFgt [] (fIfS (fB (f2 dLt (f2 dIx (fV 1) (fC (.int 0))) (fC (.int 18)))) (fSeq (fSet 2 (f2 dIx (fOn gLstD (fA (fC (.int 2)) (fA (fC (.int 2)) (fA (fC (.int 3)) (fA (fC (.int 3)) (fA (fC (.int 2)) (fA (fC (.int 4)) (fA (fC (.int 3)) (fA (fC (.int 4)) (fA (fC (.int 4)) (fA (fC (.int 6)) (fA (fC (.int 4)) (fA (fC (.int 3)) (fA (fC (.int 8)) (fA (fC (.int 5)) (fA (fC (.int 2)) (fA (fC (.int 12)) (fA (fC (.int 1)) (fA (fC (.int 1)) fA0))))))))))))))))))) (f2 dIx (fV 1) (fC (.int 0)))))
    (fSet 3 (f2 dIx (fOn gLstD (fA (fC (.int 2)) (fA (fC (.int 3)) (fA (fC (.int 2)) (fA (fC (.int 3)) (fA (fC (.int 4)) (fA (fC (.int 2)) (fA (fC (.int 4)) (fA (fC (.int 3)) (fA (fC (.int 4)) (fA (fC (.int 4)) (fA (fC (.int 6)) (fA (fC (.int 8)) (fA (fC (.int 3)) (fA (fC (.int 4)) (fA (fC (.int 12)) (fA (fC (.int 2)) (fA (fC (.int 1)) (fA (fC (.int 5)) fA0))))))))))))))))))) (f2 dIx (fV 1) (fC (.int 0)))))) fNext))
    (fSeq (fSet 4 (f2 dMul (fV 2) (fV 3)))
    (fSeq (fSet 5 (fLc [13] (fR1 (fA (fC (.int 3)) fA0)) (gN 13) fYes (fOn (chk 2 m_law_digits) (fA (fOn (chk 2 m_law_cell) (fA (fV 0) (fA (f2 dAdd (fC (.int 3)) (fV 13)) fA0))) (fA (f2 dRep (fOn gLstD (fA (fC (.int 24)) fA0)) (fC (.int 24))) fA0)))))
    (fSeq (fSet 6 (fOn (chk 5 m_law_drawn_legs) (fA (fV 2) (fA (fV 3) (fA (f2 dIx (fV 5) (fC (.int 0))) (fA (f2 dIx (fV 5) (fC (.int 1))) (fA (f2 dIx (fV 5) (fC (.int 2))) fA0)))))))
    (fSeq (fSet 7 (fOn (chk 1 m_law_composed) (fA (fV 6) fA0)))
    (fSeq (fSet 8 (fOn (chk 2 m_law_digits) (fA (fOn (chk 2 m_law_cell) (fA (fV 0) (fA (fC (.int 1)) fA0))) (fA (f2 dAddL (f2 dRep (fOn gLstD (fA (fC (.int 24)) (fA (fC (.int 24)) (fA (fC (.int 24)) (fA (fC (.int 24)) (fA (fC (.int 4)) (fA (f2 dSub (f2 dPow (fC (.int 10)) (fC (.int 40))) (fC (.int 1))) (fA (fC (.int 3)) fA0)))))))) (fC (.int 2))) (f2 dRep (fOn gLstD (fA (fC (.int 24)) fA0)) (fC (.int 24)))) fA0))))
    (fSeq (fIfS (fOr (fNot (fNx (fTr (fOn (chk 4 m_law_judged) (fA (fV 2) (fA (fV 3) (fA (fV 7) (fA (fV 6) fA0)))))))) (fNot (fNx (fTr (fOn (chk 5 m_law_papers_judged) (fA (fV 2) (fA (fV 3) (fA (fV 7) (fA (fV 6) (fA (fV 8) fA0)))))))))) (fRet (fC (.bl false))) fNext)
    (fSeq (fFgt [] (fIfS (fB (f2 dGt (f2 dIx (fV 1) (fC (.int 3))) (fC (.int 0)))) (fSet 7 (fOn (chk 2 m_law_day27) (fA (fV 4) (fA (fOn (chk 2 m_law_digits) (fA (fOn (chk 2 m_law_cell) (fA (fV 0) (fA (fC (.int 2)) fA0))) (fA (f2 dRep (fOn gLstD (fA (fC (.int 24)) fA0)) (fC (.int 24))) fA0))) fA0)))) fNext))
    (fSeq (fSet 9 (fOn (on1 dList) (fA (fV 7) fA0)))
    (fSeq (fSet 10 (fOn (chk 3 m_three_legs) (fA (fV 2) (fA (fV 3) (fA (fV 9) fA0)))))
    (fSeq (fIfS (fOr (fNot (fTr (fOn (chk 4 m_law_told_right) (fA (fV 2) (fA (fV 3) (fA (fV 7) (fA (fV 10) fA0))))))) (fB (f2 dNe (fV 9) (fV 7)))) (fRet (fC (.bl false))) fNext)
    (fSeq (fSet 11 (fLc [14] (fL (fV 10)) (gN 14) fYes (fOn (on1 dList) (fA (fV 14) fA0))))
    (fSeq (fSet 12 (fOn (chk 3 m_law_renumbered) (fA (fV 11) (fA (fV 3) (fA (fOn (chk 2 m_law_day27) (fA (fV 2) (fA (fCut dCutL (fV 8) (fSoI (fC (.int 14))) fNoI) fA0))) fA0)))))
    (fSeq (fIfS (fOr (fNot (fTr (fOn (chk 4 m_law_right) (fA (fV 2) (fA (fV 3) (fA (fV 7) (fA (fV 12) fA0))))))) (fNot (fTr (fOn (chk 4 m_law_judged) (fA (fV 2) (fA (fV 3) (fA (fV 7) (fA (fV 12) fA0)))))))) (fRet (fC (.bl false))) fNext)
    (fSeq (fIfS (fNot (fTr (fOn (chk 5 m_law_papers_judged) (fA (fV 2) (fA (fV 3) (fA (fV 7) (fA (fV 11) (fA (fCut dCutL (fV 8) (fSoI (fC (.int 7))) (fSoI (fC (.int 14)))) fA0)))))))) (fRet (fC (.bl false))) fNext)
    (fRet (f2 dEq (fOn (chk 3 m_three_legs) (fA (fV 2) (fA (fV 3) (fA (fOn (on1 dTuple) (fA (fV 7) fA0)) fA0)))) (fV 10)))))))))))))))))))))
def m_law : List D → Res D := runF 15 .sh F_law
def N_law_day27_i_li (a0 : Int) (a1 : (List Int)) : Res (List Int) :=
  (((rngR a0).bind fun x2 => lcR x2 (fun x1 => Res.ok true) (fun x1 => (Res.ok x1))).bind fun x3 =>
  (((rngR a0).bind fun x10 => (forR (σ := ((List Int) × (List Int))) (fun x4 x5 => (((nx ((nx (((ixR a1 x5).bind fun x6 => (Res.ok x6)).bind fun x7 => (modR x7 (x4.1.length : Int)))).bind fun x8 => popR x4.1 x8)).bind fun v => (appR x4.2 v.1).bind fun ys => Res.ok (ys, v.2)).bind fun x9 =>
  Res.ok (x9.2, x9.1))) x10 (x3, []))).bind fun x11 =>
  (Res.ok x11.2)))
theorem n_law_day27_i_li (a0 : Int) (a1 : (List Int)) : Rf (m_law_day27 [D.int a0, (eL D.int) a1]) (N_law_day27_i_li a0 a1) (eL D.int) :=
  n_runF ((t_seq fin_F (fun x3 : (List Int) => [some (D.int a0), some ((eL D.int) a1), some ((eL D.int) x3), none, none]) (s_set (e := (eL D.int)) _ (rf_lc (q_R1 (a_p rfl (a_0 k_R1))) (fun x1 : Int => [some (D.int a0), some ((eL D.int) a1), none, none, some (D.int x1)]) (fun _ => rfl) (fun x1 => (rf_ok (v := true) rfl)) (fun x1 => (rf_ok (e := D.int) rfl))) fun _ => rfl) fun x3 =>
  (t_seqp [some (D.int a0), some ((eL D.int) a1), some ((eL D.int) x3), some ((eL D.int) []), none] (set_p rfl rfl) (t_seq fin_F (fun x11 : ((List Int) × (List Int)) => [some (D.int a0), some ((eL D.int) a1), some ((eL D.int) x11.1), some ((eL D.int) x11.2), none]) (s_for (ex := D.int) (s0 := (x3, [])) (q_R1 (a_p rfl (a_0 k_R1))) (fun x4 : ((List Int) × (List Int)) => [some (D.int a0), some ((eL D.int) a1), some ((eL D.int) x4.1), some ((eL D.int) x4.2), none]) (fun (x4 : ((List Int) × (List Int))) (x5 : Int) => [some (D.int a0), some ((eL D.int) a1), some ((eL D.int) x4.1), some ((eL D.int) x4.2), some (D.int x5)]) rfl (fun _ _ => rfl) fun x4 x5 =>
  (t_seq fin_L (fun x9 : ((List Int) × (List Int)) => [some (D.int a0), some ((eL D.int) a1), some ((eL D.int) x9.2), some ((eL D.int) x9.1), some (D.int x5)]) (s_appX (e := D.int) (xs := x4.2) (fun v : ((List Int) × (List Int)) => [some (D.int a0), some ((eL D.int) a1), some ((eL D.int) v.2), some ((eL D.int) v.1), some (D.int x5)]) rfl (x_popI (e := D.int) (xs := x4.1) (fun ys : (List Int) => [some (D.int a0), some ((eL D.int) a1), some ((eL D.int) ys), some ((eL D.int) x4.2), some (D.int x5)]) rfl (q_f2 (b_i (q_on (a_i (q_f2 (b_p rfl (b_p rfl op_ixL))) fun x6 => (a_0 (rf_ok rfl)))) fun x7 => (b_p (evSc (evOn (evA rfl rfl) op_lenL) rfl) op_mod))) fun _ => rfl) (fun _ => rfl) fun _ _ => rfl) fun x9 =>
  (t_next rfl))) fun x11 =>
  (t_end (t_retF (rf_ok (e := (eL D.int)) rfl)))))))
def N_law_drawn_legs_i_i_li_li_li (a0 : Int) (a1 : Int) (a2 : (List Int)) (a3 : (List Int)) (a4 : (List Int)) : Res (List (List Int)) :=
  (((rngR 3).bind fun x5 => lcR x5 (fun x1 => Res.ok true) (fun x1 => (((mulR a0 a1).bind fun x2 => (rngR x2)).bind fun x4 => lcR x4 (fun x3 => Res.ok true) (fun x3 => (Res.ok 0))))).bind fun x6 =>
  (((rngR a1).bind fun x33 => (forR (σ := (List (List Int))) (fun x7 x8 => ((((mulR a0 x8).bind fun x9 => (Res.ok (cutN a2 (some x9) none))).bind fun x10 => (N_law_day27_i_li a0 x10)).bind fun x11 =>
  ((((mulR a0 x8).bind fun x12 => (Res.ok (cutN a4 (some x12) none))).bind fun x13 => (N_law_day27_i_li a0 x13)).bind fun x14 =>
  (((rngR a0).bind fun x31 => (forR (σ := (List (List Int))) (fun x15 x16 => (((((ixR x11 x16).bind fun x17 => (mulR x17 a1)).bind fun x18 => (Res.ok (x18 + x8))).bind fun x20 => (Res.ok 0).bind fun x21 => (nx ((mulR x16 a1).bind fun x19 => (Res.ok (x19 + x8)))).bind fun x22 => set2R x15 x21 x22 x20).bind fun x23 =>
  (((((ixR x14 x16).bind fun x24 => (mulR x24 a1)).bind fun x25 => (Res.ok (x25 + x8))).bind fun x27 => (Res.ok 2).bind fun x28 => (nx ((mulR x16 a1).bind fun x26 => (Res.ok (x26 + x8)))).bind fun x29 => set2R x23 x28 x29 x27).bind fun x30 =>
  Res.ok x30))) x31 x7)).bind fun x32 =>
  Res.ok x32)))) x33 x6)).bind fun x34 =>
  (((rngR a0).bind fun x51 => (forR (σ := (List (List Int))) (fun x35 x36 => ((((mulR a1 x36).bind fun x37 => (Res.ok (cutN a3 (some x37) none))).bind fun x38 => (N_law_day27_i_li a1 x38)).bind fun x39 =>
  (((rngR a1).bind fun x49 => (forR (σ := (List (List Int))) (fun x40 x41 => ((((mulR x36 a1).bind fun x42 => ((ixR x39 x41).bind fun x43 => (Res.ok (x42 + x43)))).bind fun x45 => (Res.ok 1).bind fun x46 => (nx ((mulR x36 a1).bind fun x44 => (Res.ok (x44 + x41)))).bind fun x47 => set2R x40 x46 x47 x45).bind fun x48 =>
  Res.ok x48)) x49 x35)).bind fun x50 =>
  Res.ok x50))) x51 x34)).bind fun x52 =>
  (Res.ok x52))))
theorem n_law_drawn_legs_i_i_li_li_li (a0 : Int) (a1 : Int) (a2 : (List Int)) (a3 : (List Int)) (a4 : (List Int)) : Rf (m_law_drawn_legs [D.int a0, D.int a1, (eL D.int) a2, (eL D.int) a3, (eL D.int) a4]) (N_law_drawn_legs_i_i_li_li_li a0 a1 a2 a3 a4) (eL (eL D.int)) :=
  n_runF ((t_seq fin_F (fun x6 : (List (List Int)) => [some (D.int a0), some (D.int a1), some ((eL D.int) a2), some ((eL D.int) a3), some ((eL D.int) a4), some ((eL (eL D.int)) x6), none, none, none, none, none, none]) (s_set (e := (eL (eL D.int))) _ (rf_lc (q_R1 (a_p rfl (a_0 k_R1))) (fun x1 : Int => [some (D.int a0), some (D.int a1), some ((eL D.int) a2), some ((eL D.int) a3), some ((eL D.int) a4), none, none, none, none, none, some (D.int x1), none]) (fun _ => rfl) (fun x1 => (rf_ok (v := true) rfl)) (fun x1 => (rf_lc (q_R1 (a_i (q_f2 (b_p rfl (b_p rfl op_mul))) fun x2 => (a_0 k_R1))) (fun x3 : Int => [some (D.int a0), some (D.int a1), some ((eL D.int) a2), some ((eL D.int) a3), some ((eL D.int) a4), none, none, none, none, none, some (D.int x1), some (D.int x3)]) (fun _ => rfl) (fun x3 => (rf_ok (v := true) rfl)) (fun x3 => (rf_ok (e := D.int) rfl))))) fun _ => rfl) fun x6 =>
  (t_seq fin_F (fun x34 : (List (List Int)) => [some (D.int a0), some (D.int a1), some ((eL D.int) a2), some ((eL D.int) a3), some ((eL D.int) a4), some ((eL (eL D.int)) x34), none, none, none, none, none, none]) (s_for (ex := D.int) (s0 := x6) (q_R1 (a_p rfl (a_0 k_R1))) (fun x7 : (List (List Int)) => [some (D.int a0), some (D.int a1), some ((eL D.int) a2), some ((eL D.int) a3), some ((eL D.int) a4), some ((eL (eL D.int)) x7), none, none, none, none, none, none]) (fun (x7 : (List (List Int))) (x8 : Int) => [some (D.int a0), some (D.int a1), some ((eL D.int) a2), some ((eL D.int) a3), some ((eL D.int) a4), some ((eL (eL D.int)) x7), some (D.int x8), none, none, none, none, none]) rfl (fun _ _ => rfl) fun x7 x8 =>
  (t_assoc (t_seq fin_L (fun x11 : (List Int) => [some (D.int a0), some (D.int a1), some ((eL D.int) a2), some ((eL D.int) a3), some ((eL D.int) a4), some ((eL (eL D.int)) x7), some (D.int x8), none, some ((eL D.int) x11), none, none, none]) (s_set (e := (eL D.int)) _ (q_on (a_p rfl (a_i (q_Cut (b_p rfl (b_i (rSoI (q_f2 (b_p rfl (b_p rfl op_mul)))) fun x9 => (b_p rfl (rf_ok op_cutL))))) fun x10 => (a_0 (rf_chk (n_law_day27_i_li a0 x10) rfl))))) fun _ => rfl) fun x11 =>
  (t_assoc (t_seq fin_L (fun x14 : (List Int) => [some (D.int a0), some (D.int a1), some ((eL D.int) a2), some ((eL D.int) a3), some ((eL D.int) a4), some ((eL (eL D.int)) x7), some (D.int x8), none, some ((eL D.int) x11), some ((eL D.int) x14), none, none]) (s_set (e := (eL D.int)) _ (q_on (a_p rfl (a_i (q_Cut (b_p rfl (b_i (rSoI (q_f2 (b_p rfl (b_p rfl op_mul)))) fun x12 => (b_p rfl (rf_ok op_cutL))))) fun x13 => (a_0 (rf_chk (n_law_day27_i_li a0 x13) rfl))))) fun _ => rfl) fun x14 =>
  (t_seq fin_L (fun x32 : (List (List Int)) => [some (D.int a0), some (D.int a1), some ((eL D.int) a2), some ((eL D.int) a3), some ((eL D.int) a4), some ((eL (eL D.int)) x32), some (D.int x8), none, some ((eL D.int) x11), some ((eL D.int) x14), none, none]) (s_for (ex := D.int) (s0 := x7) (q_R1 (a_p rfl (a_0 k_R1))) (fun x15 : (List (List Int)) => [some (D.int a0), some (D.int a1), some ((eL D.int) a2), some ((eL D.int) a3), some ((eL D.int) a4), some ((eL (eL D.int)) x15), some (D.int x8), none, some ((eL D.int) x11), some ((eL D.int) x14), none, none]) (fun (x15 : (List (List Int))) (x16 : Int) => [some (D.int a0), some (D.int a1), some ((eL D.int) a2), some ((eL D.int) a3), some ((eL D.int) a4), some ((eL (eL D.int)) x15), some (D.int x8), some (D.int x16), some ((eL D.int) x11), some ((eL D.int) x14), none, none]) rfl (fun _ _ => rfl) fun x15 x16 =>
  (t_assoc (t_seq fin_L (fun x23 : (List (List Int)) => [some (D.int a0), some (D.int a1), some ((eL D.int) a2), some ((eL D.int) a3), some ((eL D.int) a4), some ((eL (eL D.int)) x23), some (D.int x8), some (D.int x16), some ((eL D.int) x11), some ((eL D.int) x14), none, none]) (s_set2 (e := D.int) (xs := x15) (fun ys : (List (List Int)) => [some (D.int a0), some (D.int a1), some ((eL D.int) a2), some ((eL D.int) a3), some ((eL D.int) a4), some ((eL (eL D.int)) ys), some (D.int x8), some (D.int x16), some ((eL D.int) x11), some ((eL D.int) x14), none, none]) rfl (q_f2 (b_i (q_f2 (b_i (q_f2 (b_p rfl (b_p rfl op_ixL))) fun x17 => (b_p rfl op_mul))) fun x18 => (b_p rfl (rf_ok rfl)))) (rf_ok (e := D.int) rfl) (q_f2 (b_i (q_f2 (b_p rfl (b_p rfl op_mul))) fun x19 => (b_p rfl (rf_ok rfl)))) fun _ => rfl) fun x23 =>
  (t_seq fin_L (fun x30 : (List (List Int)) => [some (D.int a0), some (D.int a1), some ((eL D.int) a2), some ((eL D.int) a3), some ((eL D.int) a4), some ((eL (eL D.int)) x30), some (D.int x8), some (D.int x16), some ((eL D.int) x11), some ((eL D.int) x14), none, none]) (s_set2 (e := D.int) (xs := x23) (fun ys : (List (List Int)) => [some (D.int a0), some (D.int a1), some ((eL D.int) a2), some ((eL D.int) a3), some ((eL D.int) a4), some ((eL (eL D.int)) ys), some (D.int x8), some (D.int x16), some ((eL D.int) x11), some ((eL D.int) x14), none, none]) rfl (q_f2 (b_i (q_f2 (b_i (q_f2 (b_p rfl (b_p rfl op_ixL))) fun x24 => (b_p rfl op_mul))) fun x25 => (b_p rfl (rf_ok rfl)))) (rf_ok (e := D.int) rfl) (q_f2 (b_i (q_f2 (b_p rfl (b_p rfl op_mul))) fun x26 => (b_p rfl (rf_ok rfl)))) fun _ => rfl) fun x30 =>
  (t_next rfl))))) fun x32 =>
  (t_next rfl))))))) fun x34 =>
  (t_seq fin_F (fun x52 : (List (List Int)) => [some (D.int a0), some (D.int a1), some ((eL D.int) a2), some ((eL D.int) a3), some ((eL D.int) a4), some ((eL (eL D.int)) x52), none, none, none, none, none, none]) (s_for (ex := D.int) (s0 := x34) (q_R1 (a_p rfl (a_0 k_R1))) (fun x35 : (List (List Int)) => [some (D.int a0), some (D.int a1), some ((eL D.int) a2), some ((eL D.int) a3), some ((eL D.int) a4), some ((eL (eL D.int)) x35), none, none, none, none, none, none]) (fun (x35 : (List (List Int))) (x36 : Int) => [some (D.int a0), some (D.int a1), some ((eL D.int) a2), some ((eL D.int) a3), some ((eL D.int) a4), some ((eL (eL D.int)) x35), none, some (D.int x36), none, none, none, none]) rfl (fun _ _ => rfl) fun x35 x36 =>
  (t_assoc (t_seq fin_L (fun x39 : (List Int) => [some (D.int a0), some (D.int a1), some ((eL D.int) a2), some ((eL D.int) a3), some ((eL D.int) a4), some ((eL (eL D.int)) x35), none, some (D.int x36), some ((eL D.int) x39), none, none, none]) (s_set (e := (eL D.int)) _ (q_on (a_p rfl (a_i (q_Cut (b_p rfl (b_i (rSoI (q_f2 (b_p rfl (b_p rfl op_mul)))) fun x37 => (b_p rfl (rf_ok op_cutL))))) fun x38 => (a_0 (rf_chk (n_law_day27_i_li a1 x38) rfl))))) fun _ => rfl) fun x39 =>
  (t_seq fin_L (fun x50 : (List (List Int)) => [some (D.int a0), some (D.int a1), some ((eL D.int) a2), some ((eL D.int) a3), some ((eL D.int) a4), some ((eL (eL D.int)) x50), none, some (D.int x36), some ((eL D.int) x39), none, none, none]) (s_for (ex := D.int) (s0 := x35) (q_R1 (a_p rfl (a_0 k_R1))) (fun x40 : (List (List Int)) => [some (D.int a0), some (D.int a1), some ((eL D.int) a2), some ((eL D.int) a3), some ((eL D.int) a4), some ((eL (eL D.int)) x40), none, some (D.int x36), some ((eL D.int) x39), none, none, none]) (fun (x40 : (List (List Int))) (x41 : Int) => [some (D.int a0), some (D.int a1), some ((eL D.int) a2), some ((eL D.int) a3), some ((eL D.int) a4), some ((eL (eL D.int)) x40), some (D.int x41), some (D.int x36), some ((eL D.int) x39), none, none, none]) rfl (fun _ _ => rfl) fun x40 x41 =>
  (t_seq fin_L (fun x48 : (List (List Int)) => [some (D.int a0), some (D.int a1), some ((eL D.int) a2), some ((eL D.int) a3), some ((eL D.int) a4), some ((eL (eL D.int)) x48), some (D.int x41), some (D.int x36), some ((eL D.int) x39), none, none, none]) (s_set2 (e := D.int) (xs := x40) (fun ys : (List (List Int)) => [some (D.int a0), some (D.int a1), some ((eL D.int) a2), some ((eL D.int) a3), some ((eL D.int) a4), some ((eL (eL D.int)) ys), some (D.int x41), some (D.int x36), some ((eL D.int) x39), none, none, none]) rfl (q_f2 (b_i (q_f2 (b_p rfl (b_p rfl op_mul))) fun x42 => (b_i (q_f2 (b_p rfl (b_p rfl op_ixL))) fun x43 => (rf_ok rfl)))) (rf_ok (e := D.int) rfl) (q_f2 (b_i (q_f2 (b_p rfl (b_p rfl op_mul))) fun x44 => (b_p rfl (rf_ok rfl)))) fun _ => rfl) fun x48 =>
  (t_next rfl))) fun x50 =>
  (t_next rfl))))) fun x52 =>
  (t_end (t_retF (rf_ok (e := (eL (eL D.int))) rfl)))))))
def N_law_composed_lli (a0 : (List (List Int))) : Res (List Int) :=
  ((ixR a0 0).bind fun x5 => lcR x5 (fun x1 => Res.ok true) (fun x1 => ((ixR a0 2).bind fun x3 => (((ixR a0 1).bind fun x2 => (ixR x2 x1)).bind fun x4 => (ixR x3 x4)))))
theorem n_law_composed_lli (a0 : (List (List Int))) : Rf (m_law_composed [(eL (eL D.int)) a0]) (N_law_composed_lli a0) (eL D.int) :=
  n_runF ((t_end (t_retF (rf_lc (q_L (b_iL (q := (eL D.int)) (e := D.int) (q_f2 (b_p rfl (b_p rfl op_ixL))) fun _ => rfl)) (fun x1 : Int => [some ((eL (eL D.int)) a0), some (D.int x1)]) (fun _ => rfl) (fun x1 => (rf_ok (v := true) rfl)) (fun x1 => (q_f2 (b_i (q_f2 (b_p rfl (b_p rfl op_ixL))) fun x3 => (b_i (q_f2 (b_i (q_f2 (b_p rfl (b_p rfl op_ixL))) fun x2 => (b_p rfl op_ixL))) fun x4 => op_ixL))))))))
def N_law_right_i_i_li_lli (a0 : Int) (a1 : Int) (a2 : (List Int)) (a3 : (List (List Int))) : Res Bool :=
  ((mulR a0 a1).bind fun x1 =>
  ((forC (σ := Unit) (β := Bool) (fun x2 x3 => ((if (!decide ((x3.length : Int) = x1)) = true then Res.ok true else (((rngR x1).bind fun x5 => lcR x5 (fun x4 => Res.ok true) (fun x4 => (Res.ok x4))).bind fun x6 => (Res.ok (!decide ((x3.mergeSort leI) = x6))))).bind fun x7 => if x7 = true then Res.ok (.ret false) else
  Res.ok (.go ()))) a3 ()).bind (ctlK (fun x8 => ((rngR x1).bind fun x32 => ((forC (σ := Unit) (β := Bool) (fun x9 x10 => ((((ixR a3 0).bind fun x11 => (ixR x11 x10)).bind fun x12 => (Res.ok x12)).bind fun x13 =>
  ((((ixR a3 1).bind fun x14 => (ixR x14 x13)).bind fun x15 => (Res.ok x15)).bind fun x16 =>
  ((((ixR a3 2).bind fun x17 => (ixR x17 x16)).bind fun x18 => (Res.ok x18)).bind fun x19 =>
  ((((modR x13 a1).bind fun x20 => ((modR x10 a1).bind fun x21 => (Res.ok (!decide (x20 = x21))))).bind fun x24 => (if x24 = true then Res.ok true else ((divR x16 a1).bind fun x22 => ((divR x13 a1).bind fun x23 => (Res.ok (!decide (x22 = x23))))))).bind fun x30 => if x30 = true then Res.ok (.ret false) else
  ((((modR x19 a1).bind fun x25 => ((modR x16 a1).bind fun x26 => (Res.ok (!decide (x25 = x26))))).bind fun x28 => (if x28 = true then Res.ok true else ((ixR a2 x10).bind fun x27 => (Res.ok (!decide (x19 = x27)))))).bind fun x29 => if x29 = true then Res.ok (.ret false) else
  Res.ok (.go ()))))))) x32 ()).bind (ctlK (fun x31 => (Res.ok true)) (fun v => v))))) (fun v => v))))
theorem n_law_right_i_i_li_lli (a0 : Int) (a1 : Int) (a2 : (List Int)) (a3 : (List (List Int))) : Rf (m_law_right [D.int a0, D.int a1, (eL D.int) a2, (eL (eL D.int)) a3]) (N_law_right_i_i_li_lli a0 a1 a2 a3) D.bl :=
  n_runF ((t_seq fin_F (fun x1 : Int => [some (D.int a0), some (D.int a1), some ((eL D.int) a2), some ((eL (eL D.int)) a3), some (D.int x1), none, none, none, none, none, none]) (s_set (e := D.int) _ (q_f2 (b_p rfl (b_p rfl op_mul))) fun _ => rfl) fun x1 =>
  (t_forCp (ex := (eL D.int)) (e := D.bl) (s0 := ()) (rk := (fun v => v)) fin_F (it_L (e := (eL D.int)) (xs := a3) rfl) (fun x2 : Unit => [some (D.int a0), some (D.int a1), some ((eL D.int) a2), some ((eL (eL D.int)) a3), some (D.int x1), none, none, none, none, none, none]) (fun (x2 : Unit) (x3 : (List Int)) => [some (D.int a0), some (D.int a1), some ((eL D.int) a2), some ((eL (eL D.int)) a3), some (D.int x1), some ((eL D.int) x3), none, none, none, none, none]) rfl (fun _ _ => rfl) (fun x2 x3 =>
  (t_ifI fin_L (rOr (evB (ev2 (evOn (evA rfl rfl) op_lenL) rfl (op_ne (e := D.int) (x := (x3.length : Int)) (x' := x1)))) (q_B (b_iB (q_f2 (b_p (evOn (evA rfl rfl) op_sortL) (b_i (rf_lc (q_R1 (a_p rfl (a_0 k_R1))) (fun x4 : Int => [some (D.int a0), some (D.int a1), some ((eL D.int) a2), some ((eL (eL D.int)) a3), some (D.int x1), some ((eL D.int) x3), none, none, none, none, some (D.int x4)]) (fun _ => rfl) (fun x4 => (rf_ok (v := true) rfl)) (fun x4 => (rf_ok (e := D.int) rfl))) fun x6 => (rf_ok (op_ne (e := (eL D.int)) (x := (x3.mergeSort leI)) (x' := x6))))))))) (t_retp rfl rfl)
  (t_nextS (t_next rfl)))) (fun x8 =>
  (t_forC (ex := D.int) (e := D.bl) (s0 := ()) (rk := (fun v => v)) fin_F (q_R1 (a_p rfl (a_0 k_R1))) (fun x9 : Unit => [some (D.int a0), some (D.int a1), some ((eL D.int) a2), some ((eL (eL D.int)) a3), some (D.int x1), none, none, none, none, none, none]) (fun (x9 : Unit) (x10 : Int) => [some (D.int a0), some (D.int a1), some ((eL D.int) a2), some ((eL (eL D.int)) a3), some (D.int x1), none, some (D.int x10), none, none, none, none]) rfl (fun _ _ => rfl) (fun x9 x10 =>
  (t_assoc (t_seq fin_L (fun x13 : Int => [some (D.int a0), some (D.int a1), some ((eL D.int) a2), some ((eL (eL D.int)) a3), some (D.int x1), none, some (D.int x10), some (D.int x13), none, none, none]) (s_set (e := D.int) _ (q_on (a_i (q_f2 (b_i (q_f2 (b_p rfl (b_p rfl op_ixL))) fun x11 => (b_p rfl op_ixL))) fun x12 => (a_0 (rf_ok rfl)))) fun _ => rfl) fun x13 =>
  (t_assoc (t_seq fin_L (fun x16 : Int => [some (D.int a0), some (D.int a1), some ((eL D.int) a2), some ((eL (eL D.int)) a3), some (D.int x1), none, some (D.int x10), some (D.int x13), some (D.int x16), none, none]) (s_set (e := D.int) _ (q_on (a_i (q_f2 (b_i (q_f2 (b_p rfl (b_p rfl op_ixL))) fun x14 => (b_p rfl op_ixL))) fun x15 => (a_0 (rf_ok rfl)))) fun _ => rfl) fun x16 =>
  (t_assoc (t_seq fin_L (fun x19 : Int => [some (D.int a0), some (D.int a1), some ((eL D.int) a2), some ((eL (eL D.int)) a3), some (D.int x1), none, some (D.int x10), some (D.int x13), some (D.int x16), some (D.int x19), none]) (s_set (e := D.int) _ (q_on (a_i (q_f2 (b_i (q_f2 (b_p rfl (b_p rfl op_ixL))) fun x17 => (b_p rfl op_ixL))) fun x18 => (a_0 (rf_ok rfl)))) fun _ => rfl) fun x19 =>
  (t_assoc (t_ifI fin_L (rOrI (q_B (b_iB (q_f2 (b_i (q_f2 (b_p rfl (b_p rfl op_mod))) fun x20 => (b_i (q_f2 (b_p rfl (b_p rfl op_mod))) fun x21 => (rf_ok (op_ne (e := D.int) (x := x20) (x' := x21)))))))) (q_B (b_iB (q_f2 (b_i (q_f2 (b_p rfl (b_p rfl op_div))) fun x22 => (b_i (q_f2 (b_p rfl (b_p rfl op_div))) fun x23 => (rf_ok (op_ne (e := D.int) (x := x22) (x' := x23))))))))) (t_retp rfl rfl)
  (t_nextS (t_ifI fin_L (rOrI (q_B (b_iB (q_f2 (b_i (q_f2 (b_p rfl (b_p rfl op_mod))) fun x25 => (b_i (q_f2 (b_p rfl (b_p rfl op_mod))) fun x26 => (rf_ok (op_ne (e := D.int) (x := x25) (x' := x26)))))))) (q_B (b_iB (q_f2 (b_p rfl (b_i (q_f2 (b_p rfl (b_p rfl op_ixL))) fun x27 => (rf_ok (op_ne (e := D.int) (x := x19) (x' := x27))))))))) (t_retp rfl rfl)
  (t_nextS (t_next rfl))))))))))))) (fun x31 =>
  (t_end (t_retF (rf_ok (e := D.bl) rfl)))) fun _ => rfl)) fun _ => rfl)))
def N_is_perm_ti_i (a0 : (List Int)) (a1 : Int) : Res Bool :=
  ((N_frozen_ti a0).bind fun x1 =>
  ((if (!decide ((x1.length : Int) = a1)) = true then Res.ok true else (((lcR x1 (fun x2 => Res.ok true) (fun x2 => (Res.ok true))).bind fun x3 => (Res.ok (x3.all id))).bind fun x4 => Res.ok (!x4))).bind fun x6 => if x6 = true then (Res.ok false) else
  ((rngLR a1).bind fun x5 => (Res.ok (decide ((x1.mergeSort leI) = x5))))))
theorem n_is_perm_ti_i (a0 : (List Int)) (a1 : Int) : Rf (m_is_perm [(eT D.int) a0, D.int a1]) (N_is_perm_ti_i a0 a1) D.bl :=
  n_runF ((t_seq fin_F (fun x1 : (List Int) => [some ((eT D.int) x1), some (D.int a1), none]) (s_set (e := (eT D.int)) _ (q_on (a_p rfl (a_0 (rf_chk (n_frozen_ti a0) rfl)))) fun _ => rfl) fun x1 =>
  (t_ifI fin_F (rOr (evB (ev2 (evOn (evA rfl rfl) op_lenT) rfl (op_ne (e := D.int) (x := (x1.length : Int)) (x' := a1)))) (q_Not (b_i (q_Tr (b_iT (q_on (a_i (rf_lcp (it_T (e := D.int) (xs := x1) rfl) (fun x2 : Int => [some ((eT D.int) x1), some (D.int a1), some (D.int x2)]) (fun _ => rfl) (fun x2 => (rf_ok (v := true) rfl)) (fun x2 => (rf_ok (e := D.bl) (evOn (evA rfl rfl) (ev_chk (n_is_number_i x2) rfl))))) fun x3 => (a_0 (rf_ok op_allL)))))) fun _ => rf_ok rfl))) (t_retF (rf_ok (e := D.bl) rfl))
  (t_nextS (t_end (t_retF (q_f2 (b_p (evOn (evA rfl rfl) op_sortT) (b_i (op_listR rfl) fun x5 => (rf_ok (op_eq (e := (eL D.int)) (x := (x1.mergeSort leI)) (x' := x5))))))))))))
def N_is_day_ti_i (a0 : (List Int)) (a1 : Int) : Res Bool :=
  (N_is_perm_ti_i a0 a1)
theorem n_is_day_ti_i (a0 : (List Int)) (a1 : Int) : Rf (m_is_day [(eT D.int) a0, D.int a1]) (N_is_day_ti_i a0 a1) D.bl :=
  n_runF ((t_end (t_retF (q_on (a_p rfl (a_p rfl (a_0 (rf_chk (n_is_perm_ti_i a0 a1) rfl))))))))
def N_keeps_ti_i_i (a0 : (List Int)) (a1 : Int) (a2 : Int) : Res Bool :=
  (if (decide (a2 = 0)) = true then ((lcR (enumI 0 a0) (fun x1 => Res.ok true) (fun x1 => ((divR x1.1 a1).bind fun x2 => ((divR x1.2 a1).bind fun x3 => (Res.ok (decide (x2 = x3))))))).bind fun x4 => (Res.ok (x4.all id))) else
  ((lcR (enumI 0 a0) (fun x5 => Res.ok true) (fun x5 => ((modR x5.1 a1).bind fun x6 => ((modR x5.2 a1).bind fun x7 => (Res.ok (decide (x6 = x7))))))).bind fun x8 => (Res.ok (x8.all id))))
theorem n_keeps_ti_i_i (a0 : (List Int)) (a1 : Int) (a2 : Int) : Rf (m_keeps [(eT D.int) a0, D.int a1, D.int a2]) (N_keeps_ti_i_i a0 a1 a2) D.bl :=
  n_runF ((t_if (evB (ev2 rfl rfl (op_eq (e := D.int) (x := a2) (x' := 0)))) (t_retF (q_on (a_i (rf_lcp (it_enT (e := D.int) (xs := a0) rfl) (fun x1 : (Int × Int) => [some ((eT D.int) a0), some (D.int a1), some (D.int a2), some (D.int x1.1), some (D.int x1.2)]) (fun _ => rfl) (fun x1 => (rf_ok (v := true) rfl)) (fun x1 => (q_f2 (b_i (q_f2 (b_p rfl (b_p rfl op_div))) fun x2 => (b_i (q_f2 (b_p rfl (b_p rfl op_div))) fun x3 => (rf_ok (op_eq (e := D.int) (x := x2) (x' := x3)))))))) fun x4 => (a_0 (rf_ok op_allL)))))
  (t_nextS (t_end (t_retF (q_on (a_i (rf_lcp (it_enT (e := D.int) (xs := a0) rfl) (fun x5 : (Int × Int) => [some ((eT D.int) a0), some (D.int a1), some (D.int a2), some (D.int x5.1), some (D.int x5.2)]) (fun _ => rfl) (fun x5 => (rf_ok (v := true) rfl)) (fun x5 => (q_f2 (b_i (q_f2 (b_p rfl (b_p rfl op_mod))) fun x6 => (b_i (q_f2 (b_p rfl (b_p rfl op_mod))) fun x7 => (rf_ok (op_eq (e := D.int) (x := x6) (x' := x7)))))))) fun x8 => (a_0 (rf_ok op_allL)))))))))
def N_are_legs_i_i_li_lli (a0 : Int) (a1 : Int) (a2 : (List Int)) (a3 : (List (List Int))) : Res Bool :=
  ((N_frozen_li a2).bind fun x1 =>
  (((N_frozen_lli a3).bind fun x2 => nx (un3R x2)).bind fun x3 =>
  ((((lcR [((x3.1, x3.2.1, x3.2.2).1), ((x3.1, x3.2.1, x3.2.2).2.1), ((x3.1, x3.2.1, x3.2.2).2.2)] (fun x4 => Res.ok true) (fun x4 => ((mulR a0 a1).bind fun x5 => (N_is_day_ti_i x4 x5)))).bind fun x6 => (Res.ok (x6.all id))).bind fun x7 => Res.ok (!x7)).bind fun x19 => if x19 = true then (Res.ok false) else
  ((((N_keeps_ti_i_i x3.1 a1 1).bind fun x8 => Res.ok (!x8)).bind fun x12 => (if x12 = true then Res.ok true else (((N_keeps_ti_i_i x3.2.1 a1 0).bind fun x9 => Res.ok (!x9)).bind fun x11 => (if x11 = true then Res.ok true else ((N_keeps_ti_i_i x3.2.2 a1 1).bind fun x10 => Res.ok (!x10)))))).bind fun x18 => if x18 = true then (Res.ok false) else
  ((lcR (enumI 0 x1) (fun x13 => Res.ok true) (fun x13 => ((((ixR x3.1 x13.1).bind fun x14 => (ixR x3.2.1 x14)).bind fun x15 => (ixR x3.2.2 x15)).bind fun x16 => (Res.ok (decide (x16 = x13.2)))))).bind fun x17 => (Res.ok (x17.all id)))))))
theorem n_are_legs_i_i_li_lli (a0 : Int) (a1 : Int) (a2 : (List Int)) (a3 : (List (List Int))) : Rf (m_are_legs [D.int a0, D.int a1, (eL D.int) a2, (eL (eL D.int)) a3]) (N_are_legs_i_i_li_lli a0 a1 a2 a3) D.bl :=
  n_runF ((t_seq fin_F (fun x1 : (List Int) => [some (D.int a0), some (D.int a1), some ((eT D.int) x1), some ((eL (eL D.int)) a3), none, none, none, none, none, none]) (s_set (e := (eT D.int)) _ (q_on (a_p rfl (a_0 (rf_chk (n_frozen_li a2) rfl)))) fun _ => rfl) fun x1 =>
  (t_seq fin_F (fun x3 : ((List Int) × (List Int) × (List Int)) => [some (D.int a0), some (D.int a1), some ((eT D.int) x1), some ((eL (eL D.int)) a3), some ((eT D.int) x3.1), some ((eT D.int) x3.2.1), some ((eT D.int) x3.2.2), none, none, none]) (s_asg (e := (eP3 (eT D.int) (eT D.int) (eT D.int))) (fun v : ((List Int) × (List Int) × (List Int)) => [some (D.int a0), some (D.int a1), some ((eT D.int) x1), some ((eL (eL D.int)) a3), some ((eT D.int) v.1), some ((eT D.int) v.2.1), some ((eT D.int) v.2.2), none, none, none]) (rf_cvt (cvt3 (e := (eT D.int))) (q_on (a_p rfl (a_0 (rf_chk (n_frozen_lli a3) rfl))))) fun _ => rfl) fun x3 =>
  (t_ifI fin_F (q_Not (b_i (q_Tr (b_iT (q_on (a_i (rf_lcp (it_T (e := (eT D.int)) (xs := [((x3.1, x3.2.1, x3.2.2).1), ((x3.1, x3.2.1, x3.2.2).2.1), ((x3.1, x3.2.1, x3.2.2).2.2)]) rfl) (fun x4 : (List Int) => [some (D.int a0), some (D.int a1), some ((eT D.int) x1), some ((eL (eL D.int)) a3), some ((eT D.int) x3.1), some ((eT D.int) x3.2.1), some ((eT D.int) x3.2.2), some ((eT D.int) x4), none, none]) (fun _ => rfl) (fun x4 => (rf_ok (v := true) rfl)) (fun x4 => (q_on (a_p rfl (a_i (q_f2 (b_p rfl (b_p rfl op_mul))) fun x5 => (a_0 (rf_chk (n_is_day_ti_i x4 x5) rfl))))))) fun x6 => (a_0 (rf_ok op_allL)))))) fun _ => rf_ok rfl)) (t_retF (rf_ok (e := D.bl) rfl))
  (t_nextS (t_ifI fin_F (rOrI (q_Not (b_i (q_Tr (b_iT (q_on (a_p rfl (a_p rfl (a_p rfl (a_0 (rf_chk (n_keeps_ti_i_i x3.1 a1 1) rfl)))))))) fun _ => rf_ok rfl)) (rOrI (q_Not (b_i (q_Tr (b_iT (q_on (a_p rfl (a_p rfl (a_p rfl (a_0 (rf_chk (n_keeps_ti_i_i x3.2.1 a1 0) rfl)))))))) fun _ => rf_ok rfl)) (q_Not (b_i (q_Tr (b_iT (q_on (a_p rfl (a_p rfl (a_p rfl (a_0 (rf_chk (n_keeps_ti_i_i x3.2.2 a1 1) rfl)))))))) fun _ => rf_ok rfl)))) (t_retF (rf_ok (e := D.bl) rfl))
  (t_nextS (t_end (t_retF (q_on (a_i (rf_lcp (it_enT (e := D.int) (xs := x1) rfl) (fun x13 : (Int × Int) => [some (D.int a0), some (D.int a1), some ((eT D.int) x1), some ((eL (eL D.int)) a3), some ((eT D.int) x3.1), some ((eT D.int) x3.2.1), some ((eT D.int) x3.2.2), none, some (D.int x13.1), some (D.int x13.2)]) (fun _ => rfl) (fun x13 => (rf_ok (v := true) rfl)) (fun x13 => (q_f2 (b_i (q_f2 (b_p rfl (b_i (q_f2 (b_p rfl (b_i (q_f2 (b_p rfl (b_p rfl op_ixT))) fun x14 => op_ixT))) fun x15 => op_ixT))) fun x16 => (b_p rfl (rf_ok (op_eq (e := D.int) (x := x16) (x' := x13.2)))))))) fun x17 => (a_0 (rf_ok op_allL)))))))))))))
def N_frozen_ptititiq (a0 : ((List Int) × (List Int) × (List Int))) : Res (List (List Int)) :=
  ((lcR [a0.1, a0.2.1, a0.2.2] (fun x1 => Res.ok true) (fun x1 => (N_frozen_ti x1))).bind fun x2 => (Res.ok x2))
theorem nr_frozen_ptititiq (n : Nat) (a0 : ((List Int) × (List Int) × (List Int))) : Rf (r_frozen (n + 3) [(eP3 (eT D.int) (eT D.int) (eT D.int)) a0]) (N_frozen_ptititiq a0) (eT (eT D.int)) :=
  n_runF ((t_ifT (evTr (ev1 rfl (isi2_b isTy_list_tup isTy_tuple_tup)) rfl) (t_retF (q_on (a_i (rf_lcp (it_T (e := (eT D.int)) (xs := [a0.1, a0.2.1, a0.2.2]) rfl) (fun x1 : (List Int) => [some ((eP3 (eT D.int) (eT D.int) (eT D.int)) a0), some ((eT D.int) x1)]) (fun _ => rfl) (fun x1 => (rf_ok (v := true) rfl)) (fun x1 => (q_on (a_p rfl (a_0 (rf_chk (nr_frozen_ti (n + 0) x1) rfl)))))) fun x2 => (a_0 (rf_ok rfl)))))))
theorem n_frozen_ptititiq (a0 : ((List Int) × (List Int) × (List Int))) : Rf (m_frozen [(eP3 (eT D.int) (eT D.int) (eT D.int)) a0]) (N_frozen_ptititiq a0) (eT (eT D.int)) := nr_frozen_ptititiq 3 a0
def N_are_legs_i_i_ti_ptititiq (a0 : Int) (a1 : Int) (a2 : (List Int)) (a3 : ((List Int) × (List Int) × (List Int))) : Res Bool :=
  ((N_frozen_ti a2).bind fun x1 =>
  (((N_frozen_ptititiq a3).bind fun x2 => nx (un3R x2)).bind fun x3 =>
  ((((lcR [((x3.1, x3.2.1, x3.2.2).1), ((x3.1, x3.2.1, x3.2.2).2.1), ((x3.1, x3.2.1, x3.2.2).2.2)] (fun x4 => Res.ok true) (fun x4 => ((mulR a0 a1).bind fun x5 => (N_is_day_ti_i x4 x5)))).bind fun x6 => (Res.ok (x6.all id))).bind fun x7 => Res.ok (!x7)).bind fun x19 => if x19 = true then (Res.ok false) else
  ((((N_keeps_ti_i_i x3.1 a1 1).bind fun x8 => Res.ok (!x8)).bind fun x12 => (if x12 = true then Res.ok true else (((N_keeps_ti_i_i x3.2.1 a1 0).bind fun x9 => Res.ok (!x9)).bind fun x11 => (if x11 = true then Res.ok true else ((N_keeps_ti_i_i x3.2.2 a1 1).bind fun x10 => Res.ok (!x10)))))).bind fun x18 => if x18 = true then (Res.ok false) else
  ((lcR (enumI 0 x1) (fun x13 => Res.ok true) (fun x13 => ((((ixR x3.1 x13.1).bind fun x14 => (ixR x3.2.1 x14)).bind fun x15 => (ixR x3.2.2 x15)).bind fun x16 => (Res.ok (decide (x16 = x13.2)))))).bind fun x17 => (Res.ok (x17.all id)))))))
theorem n_are_legs_i_i_ti_ptititiq (a0 : Int) (a1 : Int) (a2 : (List Int)) (a3 : ((List Int) × (List Int) × (List Int))) : Rf (m_are_legs [D.int a0, D.int a1, (eT D.int) a2, (eP3 (eT D.int) (eT D.int) (eT D.int)) a3]) (N_are_legs_i_i_ti_ptititiq a0 a1 a2 a3) D.bl :=
  n_runF ((t_seq fin_F (fun x1 : (List Int) => [some (D.int a0), some (D.int a1), some ((eT D.int) x1), some ((eP3 (eT D.int) (eT D.int) (eT D.int)) a3), none, none, none, none, none, none]) (s_set (e := (eT D.int)) _ (q_on (a_p rfl (a_0 (rf_chk (n_frozen_ti a2) rfl)))) fun _ => rfl) fun x1 =>
  (t_seq fin_F (fun x3 : ((List Int) × (List Int) × (List Int)) => [some (D.int a0), some (D.int a1), some ((eT D.int) x1), some ((eP3 (eT D.int) (eT D.int) (eT D.int)) a3), some ((eT D.int) x3.1), some ((eT D.int) x3.2.1), some ((eT D.int) x3.2.2), none, none, none]) (s_asg (e := (eP3 (eT D.int) (eT D.int) (eT D.int))) (fun v : ((List Int) × (List Int) × (List Int)) => [some (D.int a0), some (D.int a1), some ((eT D.int) x1), some ((eP3 (eT D.int) (eT D.int) (eT D.int)) a3), some ((eT D.int) v.1), some ((eT D.int) v.2.1), some ((eT D.int) v.2.2), none, none, none]) (rf_cvt (cvt3 (e := (eT D.int))) (q_on (a_p rfl (a_0 (rf_chk (n_frozen_ptititiq a3) rfl))))) fun _ => rfl) fun x3 =>
  (t_ifI fin_F (q_Not (b_i (q_Tr (b_iT (q_on (a_i (rf_lcp (it_T (e := (eT D.int)) (xs := [((x3.1, x3.2.1, x3.2.2).1), ((x3.1, x3.2.1, x3.2.2).2.1), ((x3.1, x3.2.1, x3.2.2).2.2)]) rfl) (fun x4 : (List Int) => [some (D.int a0), some (D.int a1), some ((eT D.int) x1), some ((eP3 (eT D.int) (eT D.int) (eT D.int)) a3), some ((eT D.int) x3.1), some ((eT D.int) x3.2.1), some ((eT D.int) x3.2.2), some ((eT D.int) x4), none, none]) (fun _ => rfl) (fun x4 => (rf_ok (v := true) rfl)) (fun x4 => (q_on (a_p rfl (a_i (q_f2 (b_p rfl (b_p rfl op_mul))) fun x5 => (a_0 (rf_chk (n_is_day_ti_i x4 x5) rfl))))))) fun x6 => (a_0 (rf_ok op_allL)))))) fun _ => rf_ok rfl)) (t_retF (rf_ok (e := D.bl) rfl))
  (t_nextS (t_ifI fin_F (rOrI (q_Not (b_i (q_Tr (b_iT (q_on (a_p rfl (a_p rfl (a_p rfl (a_0 (rf_chk (n_keeps_ti_i_i x3.1 a1 1) rfl)))))))) fun _ => rf_ok rfl)) (rOrI (q_Not (b_i (q_Tr (b_iT (q_on (a_p rfl (a_p rfl (a_p rfl (a_0 (rf_chk (n_keeps_ti_i_i x3.2.1 a1 0) rfl)))))))) fun _ => rf_ok rfl)) (q_Not (b_i (q_Tr (b_iT (q_on (a_p rfl (a_p rfl (a_p rfl (a_0 (rf_chk (n_keeps_ti_i_i x3.2.2 a1 1) rfl)))))))) fun _ => rf_ok rfl)))) (t_retF (rf_ok (e := D.bl) rfl))
  (t_nextS (t_end (t_retF (q_on (a_i (rf_lcp (it_enT (e := D.int) (xs := x1) rfl) (fun x13 : (Int × Int) => [some (D.int a0), some (D.int a1), some ((eT D.int) x1), some ((eP3 (eT D.int) (eT D.int) (eT D.int)) a3), some ((eT D.int) x3.1), some ((eT D.int) x3.2.1), some ((eT D.int) x3.2.2), none, some (D.int x13.1), some (D.int x13.2)]) (fun _ => rfl) (fun x13 => (rf_ok (v := true) rfl)) (fun x13 => (q_f2 (b_i (q_f2 (b_p rfl (b_i (q_f2 (b_p rfl (b_i (q_f2 (b_p rfl (b_p rfl op_ixT))) fun x14 => op_ixT))) fun x15 => op_ixT))) fun x16 => (b_p rfl (rf_ok (op_eq (e := D.int) (x := x16) (x' := x13.2)))))))) fun x17 => (a_0 (rf_ok op_allL)))))))))))))
def N_law_judged_i_i_li_lli (a0 : Int) (a1 : Int) (a2 : (List Int)) (a3 : (List (List Int))) : Res Bool :=
  ((N_law_right_i_i_li_lli a0 a1 a2 a3).bind fun x1 =>
  ((lcR a3 (fun x2 => Res.ok true) (fun x2 => (Res.ok x2))).bind fun x3 =>
  ((N_are_legs_i_i_li_lli a0 a1 a2 x3).bind fun x4 =>
  (((((ixR a3 0).bind fun x5 => (Res.ok x5)).bind fun x8 => (((ixR a3 1).bind fun x6 => (Res.ok x6)).bind fun x9 => (((ixR a3 2).bind fun x7 => (Res.ok x7)).bind fun x10 => (Res.ok (x8, x9, x10))))).bind fun x11 => (N_are_legs_i_i_ti_ptititiq a0 a1 a2 x11)).bind fun x12 =>
  (((lcR a3 (fun x13 => Res.ok true) (fun x13 => (Res.ok x13))).bind fun x14 => (Res.ok (!decide (x3 = x14)))).bind fun x15 => if x15 = true then (Res.ok false) else
  (if x1 = true then (Res.ok ((x4 == true) && (x12 == true))) else
  (Res.ok ((x4 == false) && (x12 == false)))))))))
theorem n_law_judged_i_i_li_lli (a0 : Int) (a1 : Int) (a2 : (List Int)) (a3 : (List (List Int))) : Rf (m_law_judged [D.int a0, D.int a1, (eL D.int) a2, (eL (eL D.int)) a3]) (N_law_judged_i_i_li_lli a0 a1 a2 a3) D.bl :=
  n_runF ((t_seq fin_F (fun x1 : Bool => [some (D.int a0), some (D.int a1), some ((eL D.int) a2), some ((eL (eL D.int)) a3), some (D.bl x1), none, none, none, none]) (s_set (e := D.bl) _ (q_on (a_p rfl (a_p rfl (a_p rfl (a_p rfl (a_0 (rf_chk (n_law_right_i_i_li_lli a0 a1 a2 a3) rfl))))))) fun _ => rfl) fun x1 =>
  (t_seq fin_F (fun x3 : (List (List Int)) => [some (D.int a0), some (D.int a1), some ((eL D.int) a2), some ((eL (eL D.int)) a3), some (D.bl x1), some ((eL (eL D.int)) x3), none, none, none]) (s_set (e := (eL (eL D.int))) _ (rf_lcp (it_L (e := (eL D.int)) (xs := a3) rfl) (fun x2 : (List Int) => [some (D.int a0), some (D.int a1), some ((eL D.int) a2), some ((eL (eL D.int)) a3), some (D.bl x1), none, none, none, some ((eL D.int) x2)]) (fun _ => rfl) (fun x2 => (rf_ok (v := true) rfl)) (fun x2 => (rf_ok (e := (eL D.int)) rfl))) fun _ => rfl) fun x3 =>
  (t_seq fin_F (fun x4 : Bool => [some (D.int a0), some (D.int a1), some ((eL D.int) a2), some ((eL (eL D.int)) a3), some (D.bl x1), some ((eL (eL D.int)) x3), some (D.bl x4), none, none]) (s_set (e := D.bl) _ (q_on (a_p rfl (a_p rfl (a_p rfl (a_p rfl (a_0 (rf_chk (n_are_legs_i_i_li_lli a0 a1 a2 x3) rfl))))))) fun _ => rfl) fun x4 =>
  (t_seq fin_F (fun x12 : Bool => [some (D.int a0), some (D.int a1), some ((eL D.int) a2), some ((eL (eL D.int)) a3), some (D.bl x1), some ((eL (eL D.int)) x3), some (D.bl x4), some (D.bl x12), none]) (s_set (e := D.bl) _ (q_on (a_p rfl (a_p rfl (a_p rfl (a_i (q_on (a_i (q_on (a_i (q_f2 (b_p rfl (b_p rfl op_ixL))) fun x5 => (a_0 (rf_ok rfl)))) fun x8 => (a_i (q_on (a_i (q_f2 (b_p rfl (b_p rfl op_ixL))) fun x6 => (a_0 (rf_ok rfl)))) fun x9 => (a_i (q_on (a_i (q_f2 (b_p rfl (b_p rfl op_ixL))) fun x7 => (a_0 (rf_ok rfl)))) fun x10 => (a_0 (rf_ok rfl)))))) fun x11 => (a_0 (rf_chk (n_are_legs_i_i_ti_ptititiq a0 a1 a2 x11) rfl))))))) fun _ => rfl) fun x12 =>
  (t_ifI fin_F (q_B (b_iB (q_f2 (b_p rfl (b_i (rf_lcp (it_L (e := (eL D.int)) (xs := a3) rfl) (fun x13 : (List Int) => [some (D.int a0), some (D.int a1), some ((eL D.int) a2), some ((eL (eL D.int)) a3), some (D.bl x1), some ((eL (eL D.int)) x3), some (D.bl x4), some (D.bl x12), some ((eL D.int) x13)]) (fun _ => rfl) (fun x13 => (rf_ok (v := true) rfl)) (fun x13 => (rf_ok (e := (eL D.int)) rfl))) fun x14 => (rf_ok (op_ne (e := (eL (eL D.int))) (x := x3) (x' := x14)))))))) (t_retF (rf_ok (e := D.bl) rfl))
  (t_nextS (t_if rfl (t_retF (rf_ok (e := D.bl) (evBv (evAnd rfl rfl))))
  (t_nextS (t_end (t_retF (rf_ok (e := D.bl) (evBv (evAnd rfl rfl))))))))))))))
def N_law_rerouted_lli_i_i_i (a0 : (List (List Int))) (a1 : Int) (a2 : Int) (a3 : Int) : Res (List (List Int)) :=
  ((lcR a0 (fun x1 => Res.ok true) (fun x1 => (Res.ok x1))).bind fun x2 =>
  (((Res.ok a3).bind fun x3 => (Res.ok a1).bind fun x4 => (nx ((ixR a0 a1).bind fun xs => idxR xs a2)).bind fun x5 => set2R x2 x4 x5 x3).bind fun x6 =>
  (((Res.ok a2).bind fun x7 => (Res.ok a1).bind fun x8 => (nx ((ixR a0 a1).bind fun xs => idxR xs a3)).bind fun x9 => set2R x6 x8 x9 x7).bind fun x10 =>
  ((((ixR a0 (a1 + 1)).bind fun x11 => (ixR x11 a3)).bind fun x12 => (Res.ok (a1 + 1)).bind fun x13 => (nx (Res.ok a2)).bind fun x14 => set2R x10 x13 x14 x12).bind fun x15 =>
  ((((ixR a0 (a1 + 1)).bind fun x16 => (ixR x16 a2)).bind fun x17 => (Res.ok (a1 + 1)).bind fun x18 => (nx (Res.ok a3)).bind fun x19 => set2R x15 x18 x19 x17).bind fun x20 =>
  (Res.ok x20))))))
theorem n_law_rerouted_lli_i_i_i (a0 : (List (List Int))) (a1 : Int) (a2 : Int) (a3 : Int) : Rf (m_law_rerouted [(eL (eL D.int)) a0, D.int a1, D.int a2, D.int a3]) (N_law_rerouted_lli_i_i_i a0 a1 a2 a3) (eL (eL D.int)) :=
  n_runF ((t_seq fin_F (fun x2 : (List (List Int)) => [some ((eL (eL D.int)) a0), some (D.int a1), some (D.int a2), some (D.int a3), some ((eL (eL D.int)) x2), none]) (s_set (e := (eL (eL D.int))) _ (rf_lcp (it_L (e := (eL D.int)) (xs := a0) rfl) (fun x1 : (List Int) => [some ((eL (eL D.int)) a0), some (D.int a1), some (D.int a2), some (D.int a3), none, some ((eL D.int) x1)]) (fun _ => rfl) (fun x1 => (rf_ok (v := true) rfl)) (fun x1 => (rf_ok (e := (eL D.int)) rfl))) fun _ => rfl) fun x2 =>
  (t_seq fin_F (fun x6 : (List (List Int)) => [some ((eL (eL D.int)) a0), some (D.int a1), some (D.int a2), some (D.int a3), some ((eL (eL D.int)) x6), none]) (s_set2 (e := D.int) (xs := x2) (fun ys : (List (List Int)) => [some ((eL (eL D.int)) a0), some (D.int a1), some (D.int a2), some (D.int a3), some ((eL (eL D.int)) ys), none]) rfl (rf_ok (e := D.int) rfl) (rf_ok (e := D.int) rfl) (op_idxI (q_f2 (b_p rfl (b_p rfl op_ixL))) rfl) fun _ => rfl) fun x6 =>
  (t_seq fin_F (fun x10 : (List (List Int)) => [some ((eL (eL D.int)) a0), some (D.int a1), some (D.int a2), some (D.int a3), some ((eL (eL D.int)) x10), none]) (s_set2 (e := D.int) (xs := x6) (fun ys : (List (List Int)) => [some ((eL (eL D.int)) a0), some (D.int a1), some (D.int a2), some (D.int a3), some ((eL (eL D.int)) ys), none]) rfl (rf_ok (e := D.int) rfl) (rf_ok (e := D.int) rfl) (op_idxI (q_f2 (b_p rfl (b_p rfl op_ixL))) rfl) fun _ => rfl) fun x10 =>
  (t_seq fin_F (fun x15 : (List (List Int)) => [some ((eL (eL D.int)) a0), some (D.int a1), some (D.int a2), some (D.int a3), some ((eL (eL D.int)) x15), none]) (s_set2 (e := D.int) (xs := x10) (fun ys : (List (List Int)) => [some ((eL (eL D.int)) a0), some (D.int a1), some (D.int a2), some (D.int a3), some ((eL (eL D.int)) ys), none]) rfl (q_f2 (b_i (q_f2 (b_p rfl (b_p rfl op_ixL))) fun x11 => (b_p rfl op_ixL))) (rf_ok (e := D.int) rfl) (rf_ok (e := D.int) rfl) fun _ => rfl) fun x15 =>
  (t_seq fin_F (fun x20 : (List (List Int)) => [some ((eL (eL D.int)) a0), some (D.int a1), some (D.int a2), some (D.int a3), some ((eL (eL D.int)) x20), none]) (s_set2 (e := D.int) (xs := x15) (fun ys : (List (List Int)) => [some ((eL (eL D.int)) a0), some (D.int a1), some (D.int a2), some (D.int a3), some ((eL (eL D.int)) ys), none]) rfl (q_f2 (b_i (q_f2 (b_p rfl (b_p rfl op_ixL))) fun x16 => (b_p rfl op_ixL))) (rf_ok (e := D.int) rfl) (rf_ok (e := D.int) rfl) fun _ => rfl) fun x20 =>
  (t_end (t_retF (rf_ok (e := (eL (eL D.int))) rfl)))))))))
def N_law_swapped_lli_i_i_i (a0 : (List (List Int))) (a1 : Int) (a2 : Int) (a3 : Int) : Res (List (List Int)) :=
  ((lcR a0 (fun x1 => Res.ok true) (fun x1 => (Res.ok x1))).bind fun x2 =>
  ((((ixR a0 a1).bind fun x3 => (ixR x3 a3)).bind fun x4 => (Res.ok a1).bind fun x5 => (nx (Res.ok a2)).bind fun x6 => set2R x2 x5 x6 x4).bind fun x7 =>
  ((((ixR a0 a1).bind fun x8 => (ixR x8 a2)).bind fun x9 => (Res.ok a1).bind fun x10 => (nx (Res.ok a3)).bind fun x11 => set2R x7 x10 x11 x9).bind fun x12 =>
  (Res.ok x12))))
theorem n_law_swapped_lli_i_i_i (a0 : (List (List Int))) (a1 : Int) (a2 : Int) (a3 : Int) : Rf (m_law_swapped [(eL (eL D.int)) a0, D.int a1, D.int a2, D.int a3]) (N_law_swapped_lli_i_i_i a0 a1 a2 a3) (eL (eL D.int)) :=
  n_runF ((t_seq fin_F (fun x2 : (List (List Int)) => [some ((eL (eL D.int)) a0), some (D.int a1), some (D.int a2), some (D.int a3), some ((eL (eL D.int)) x2), none]) (s_set (e := (eL (eL D.int))) _ (rf_lcp (it_L (e := (eL D.int)) (xs := a0) rfl) (fun x1 : (List Int) => [some ((eL (eL D.int)) a0), some (D.int a1), some (D.int a2), some (D.int a3), none, some ((eL D.int) x1)]) (fun _ => rfl) (fun x1 => (rf_ok (v := true) rfl)) (fun x1 => (rf_ok (e := (eL D.int)) rfl))) fun _ => rfl) fun x2 =>
  (t_seq fin_F (fun x7 : (List (List Int)) => [some ((eL (eL D.int)) a0), some (D.int a1), some (D.int a2), some (D.int a3), some ((eL (eL D.int)) x7), none]) (s_set2 (e := D.int) (xs := x2) (fun ys : (List (List Int)) => [some ((eL (eL D.int)) a0), some (D.int a1), some (D.int a2), some (D.int a3), some ((eL (eL D.int)) ys), none]) rfl (q_f2 (b_i (q_f2 (b_p rfl (b_p rfl op_ixL))) fun x3 => (b_p rfl op_ixL))) (rf_ok (e := D.int) rfl) (rf_ok (e := D.int) rfl) fun _ => rfl) fun x7 =>
  (t_seq fin_F (fun x12 : (List (List Int)) => [some ((eL (eL D.int)) a0), some (D.int a1), some (D.int a2), some (D.int a3), some ((eL (eL D.int)) x12), none]) (s_set2 (e := D.int) (xs := x7) (fun ys : (List (List Int)) => [some ((eL (eL D.int)) a0), some (D.int a1), some (D.int a2), some (D.int a3), some ((eL (eL D.int)) ys), none]) rfl (q_f2 (b_i (q_f2 (b_p rfl (b_p rfl op_ixL))) fun x8 => (b_p rfl op_ixL))) (rf_ok (e := D.int) rfl) (rf_ok (e := D.int) rfl) fun _ => rfl) fun x12 =>
  (t_end (t_retF (rf_ok (e := (eL (eL D.int))) rfl)))))))
def N_law_replaced_lli_i_li (a0 : (List (List Int))) (a1 : Int) (a2 : (List Int)) : Res (List (List Int)) :=
  ((lcR a0 (fun x1 => Res.ok true) (fun x1 => (Res.ok x1))).bind fun x2 =>
  ((setR x2 a1 a2).bind fun x3 =>
  (Res.ok x3)))
theorem n_law_replaced_lli_i_li (a0 : (List (List Int))) (a1 : Int) (a2 : (List Int)) : Rf (m_law_replaced [(eL (eL D.int)) a0, D.int a1, (eL D.int) a2]) (N_law_replaced_lli_i_li a0 a1 a2) (eL (eL D.int)) :=
  n_runF ((t_seq fin_F (fun x2 : (List (List Int)) => [some ((eL (eL D.int)) a0), some (D.int a1), some ((eL D.int) a2), some ((eL (eL D.int)) x2), none]) (s_set (e := (eL (eL D.int))) _ (rf_lcp (it_L (e := (eL D.int)) (xs := a0) rfl) (fun x1 : (List Int) => [some ((eL (eL D.int)) a0), some (D.int a1), some ((eL D.int) a2), none, some ((eL D.int) x1)]) (fun _ => rfl) (fun x1 => (rf_ok (v := true) rfl)) (fun x1 => (rf_ok (e := (eL D.int)) rfl))) fun _ => rfl) fun x2 =>
  (t_seq fin_F (fun x3 : (List (List Int)) => [some ((eL (eL D.int)) a0), some (D.int a1), some ((eL D.int) a2), some ((eL (eL D.int)) x3), none]) (s_setIx (e := (eL D.int)) (xs := x2) (d := a2) (fun ys : (List (List Int)) => [some ((eL (eL D.int)) a0), some (D.int a1), some ((eL D.int) a2), some ((eL (eL D.int)) ys), none]) rfl rfl rfl fun _ => rfl) fun x3 =>
  (t_end (t_retF (rf_ok (e := (eL (eL D.int))) rfl))))))
def N_law_papers_lli_li_i_i_i_i_i (a0 : (List (List Int))) (a1 : (List Int)) (a2 : Int) (a3 : Int) (a4 : Int) (a5 : Int) (a6 : Int) : Res (List (List (List Int))) :=
  (((rngR (a1.length : Int)).bind fun x2 => lcR x2 (fun x1 => Res.ok true) (fun x1 => (Res.ok x1))).bind fun x3 =>
  (((ixR a0 a2).bind fun x4 => (Res.ok x4)).bind fun x5 =>
  ((((ixR a0 a2).bind fun x6 => (ixR x6 a4)).bind fun x7 => (setR x5 a3 x7)).bind fun x8 =>
  (((ixR a0 a2).bind fun x10 => lcR x10 (fun x9 => Res.ok true) (fun x9 => (ixR [x9, (-1)] (if (decide (x9 = ((a1.length : Int) - 1))) then 1 else 0)))).bind fun x11 =>
  (((ixR a0 a2).bind fun x12 => (Res.ok x12)).bind fun x13 =>
  ((setR x13 a5 a6).bind fun x14 =>
  ((((ixR a0 2).bind fun x15 => ((ixR a0 1).bind fun x16 => ((ixR a0 0).bind fun x17 => (Res.ok [x15, x16, x17])))).bind fun x18 => (Res.ok [a0, x18, [x3, a1, x3], [a1, x3, x3], [x3, x3, a1]])).bind fun x19 =>
  ((((N_law_rerouted_lli_i_i_i a0 0 a3 a5).bind fun x20 => ((N_law_rerouted_lli_i_i_i a0 0 a3 a4).bind fun x21 => ((N_law_rerouted_lli_i_i_i a0 1 a3 a5).bind fun x22 => (Res.ok [x20, x21, x22])))).bind fun x23 => (catR x19 x23)).bind fun x24 =>
  ((((N_law_rerouted_lli_i_i_i a0 1 a3 a4).bind fun x25 => ((N_law_swapped_lli_i_i_i a0 0 a3 a4).bind fun x26 => ((N_law_swapped_lli_i_i_i a0 1 a3 a5).bind fun x27 => (Res.ok [x25, x26, x27])))).bind fun x28 => (catR x24 x28)).bind fun x29 =>
  ((((N_law_swapped_lli_i_i_i a0 2 a3 a4).bind fun x30 => ((N_law_replaced_lli_i_li a0 a2 x8).bind fun x31 => ((N_law_replaced_lli_i_li a0 a2 x11).bind fun x32 => (Res.ok [x30, x31, x32])))).bind fun x33 => (catR x29 x33)).bind fun x34 =>
  ((((N_law_replaced_lli_i_li a0 a2 x14).bind fun x37 => ((((ixR a0 a2).bind fun x35 => (Res.ok (cutN x35 none (some ((a1.length : Int) - 1))))).bind fun x36 => (N_law_replaced_lli_i_li a0 a2 x36)).bind fun x38 => (Res.ok [x37, x38]))).bind fun x39 => (catR x34 x39)).bind fun x40 =>
  (((((ixR a0 a2).bind fun x41 => (catR x41 [(a1.length : Int)])).bind fun x42 => (N_law_replaced_lli_i_li a0 a2 x42)).bind fun x45 => ((((ixR a0 a2).bind fun x43 => (catR x43 [a3])).bind fun x44 => (N_law_replaced_lli_i_li a0 a2 x44)).bind fun x46 => (Res.ok [x45, x46]))).bind fun x47 => (catR x40 x47)))))))))))))
theorem n_law_papers_lli_li_i_i_i_i_i (a0 : (List (List Int))) (a1 : (List Int)) (a2 : Int) (a3 : Int) (a4 : Int) (a5 : Int) (a6 : Int) : Rf (m_law_papers [(eL (eL D.int)) a0, (eL D.int) a1, D.int a2, D.int a3, D.int a4, D.int a5, D.int a6]) (N_law_papers_lli_li_i_i_i_i_i a0 a1 a2 a3 a4 a5 a6) (eL (eL (eL D.int))) :=
  n_runF ((t_seqp [some ((eL (eL D.int)) a0), some ((eL D.int) a1), some (D.int a2), some (D.int a3), some (D.int a4), some (D.int a5), some (D.int a6), some (D.int (a1.length : Int)), none, none, none, none, none, none, none] (set_p (evOn (evA rfl rfl) op_lenL) rfl) (t_seq fin_F (fun x3 : (List Int) => [some ((eL (eL D.int)) a0), some ((eL D.int) a1), some (D.int a2), some (D.int a3), some (D.int a4), some (D.int a5), some (D.int a6), some (D.int (a1.length : Int)), some ((eL D.int) x3), none, none, none, none, none, none]) (s_set (e := (eL D.int)) _ (rf_lc (q_R1 (a_p rfl (a_0 k_R1))) (fun x1 : Int => [some ((eL (eL D.int)) a0), some ((eL D.int) a1), some (D.int a2), some (D.int a3), some (D.int a4), some (D.int a5), some (D.int a6), some (D.int (a1.length : Int)), none, none, none, none, none, some (D.int x1), none]) (fun _ => rfl) (fun x1 => (rf_ok (v := true) rfl)) (fun x1 => (rf_ok (e := D.int) rfl))) fun _ => rfl) fun x3 =>
  (t_seq fin_F (fun x5 : (List Int) => [some ((eL (eL D.int)) a0), some ((eL D.int) a1), some (D.int a2), some (D.int a3), some (D.int a4), some (D.int a5), some (D.int a6), some (D.int (a1.length : Int)), some ((eL D.int) x3), some ((eL D.int) x5), none, none, none, none, none]) (s_set (e := (eL D.int)) _ (q_on (a_i (q_f2 (b_p rfl (b_p rfl op_ixL))) fun x4 => (a_0 (rf_ok rfl)))) fun _ => rfl) fun x5 =>
  (t_seq fin_F (fun x8 : (List Int) => [some ((eL (eL D.int)) a0), some ((eL D.int) a1), some (D.int a2), some (D.int a3), some (D.int a4), some (D.int a5), some (D.int a6), some (D.int (a1.length : Int)), some ((eL D.int) x3), some ((eL D.int) x8), none, none, none, none, none]) (s_setIxI (e := D.int) (xs := x5) (fun ys : (List Int) => [some ((eL (eL D.int)) a0), some ((eL D.int) a1), some (D.int a2), some (D.int a3), some (D.int a4), some (D.int a5), some (D.int a6), some (D.int (a1.length : Int)), some ((eL D.int) x3), some ((eL D.int) ys), none, none, none, none, none]) rfl (q_f2 (b_i (q_f2 (b_p rfl (b_p rfl op_ixL))) fun x6 => (b_p rfl op_ixL))) rfl fun _ => rfl) fun x8 =>
  (t_seq fin_F (fun x11 : (List Int) => [some ((eL (eL D.int)) a0), some ((eL D.int) a1), some (D.int a2), some (D.int a3), some (D.int a4), some (D.int a5), some (D.int a6), some (D.int (a1.length : Int)), some ((eL D.int) x3), some ((eL D.int) x8), some ((eL D.int) x11), none, none, none, none]) (s_set (e := (eL D.int)) _ (rf_lc (q_L (b_iL (q := (eL D.int)) (e := D.int) (q_f2 (b_p rfl (b_p rfl op_ixL))) fun _ => rfl)) (fun x9 : Int => [some ((eL (eL D.int)) a0), some ((eL D.int) a1), some (D.int a2), some (D.int a3), some (D.int a4), some (D.int a5), some (D.int a6), some (D.int (a1.length : Int)), some ((eL D.int) x3), some ((eL D.int) x8), none, none, none, none, some (D.int x9)]) (fun _ => rfl) (fun x9 => (rf_ok (v := true) rfl)) (fun x9 => (q_f2 (b_p rfl (b_p (evOn (evA (ev2 rfl rfl (op_eq (e := D.int) (x := x9) (x' := ((a1.length : Int) - 1)))) rfl) rfl) op_ixL))))) fun _ => rfl) fun x11 =>
  (t_seq fin_F (fun x13 : (List Int) => [some ((eL (eL D.int)) a0), some ((eL D.int) a1), some (D.int a2), some (D.int a3), some (D.int a4), some (D.int a5), some (D.int a6), some (D.int (a1.length : Int)), some ((eL D.int) x3), some ((eL D.int) x8), some ((eL D.int) x11), some ((eL D.int) x13), none, none, none]) (s_set (e := (eL D.int)) _ (q_on (a_i (q_f2 (b_p rfl (b_p rfl op_ixL))) fun x12 => (a_0 (rf_ok rfl)))) fun _ => rfl) fun x13 =>
  (t_seq fin_F (fun x14 : (List Int) => [some ((eL (eL D.int)) a0), some ((eL D.int) a1), some (D.int a2), some (D.int a3), some (D.int a4), some (D.int a5), some (D.int a6), some (D.int (a1.length : Int)), some ((eL D.int) x3), some ((eL D.int) x8), some ((eL D.int) x11), some ((eL D.int) x14), none, none, none]) (s_setIx (e := D.int) (xs := x13) (d := a6) (fun ys : (List Int) => [some ((eL (eL D.int)) a0), some ((eL D.int) a1), some (D.int a2), some (D.int a3), some (D.int a4), some (D.int a5), some (D.int a6), some (D.int (a1.length : Int)), some ((eL D.int) x3), some ((eL D.int) x8), some ((eL D.int) x11), some ((eL D.int) ys), none, none, none]) rfl rfl rfl fun _ => rfl) fun x14 =>
  (t_seq fin_F (fun x19 : (List (List (List Int))) => [some ((eL (eL D.int)) a0), some ((eL D.int) a1), some (D.int a2), some (D.int a3), some (D.int a4), some (D.int a5), some (D.int a6), some (D.int (a1.length : Int)), some ((eL D.int) x3), some ((eL D.int) x8), some ((eL D.int) x11), some ((eL D.int) x14), some ((eL (eL (eL D.int))) x19), none, none]) (s_set (e := (eL (eL (eL D.int)))) _ (q_on (a_p rfl (a_i (q_on (a_i (q_f2 (b_p rfl (b_p rfl op_ixL))) fun x15 => (a_i (q_f2 (b_p rfl (b_p rfl op_ixL))) fun x16 => (a_i (q_f2 (b_p rfl (b_p rfl op_ixL))) fun x17 => (a_0 (rf_ok rfl)))))) fun x18 => (a_p rfl (a_p rfl (a_p rfl (a_0 (rf_ok rfl)))))))) fun _ => rfl) fun x19 =>
  (t_seq fin_F (fun x24 : (List (List (List Int))) => [some ((eL (eL D.int)) a0), some ((eL D.int) a1), some (D.int a2), some (D.int a3), some (D.int a4), some (D.int a5), some (D.int a6), some (D.int (a1.length : Int)), some ((eL D.int) x3), some ((eL D.int) x8), some ((eL D.int) x11), some ((eL D.int) x14), some ((eL (eL (eL D.int))) x24), none, none]) (s_set (e := (eL (eL (eL D.int)))) _ (q_f2 (b_p rfl (b_i (q_on (a_i (q_on (a_p rfl (a_p rfl (a_p rfl (a_p rfl (a_0 (rf_chk (n_law_rerouted_lli_i_i_i a0 0 a3 a5) rfl))))))) fun x20 => (a_i (q_on (a_p rfl (a_p rfl (a_p rfl (a_p rfl (a_0 (rf_chk (n_law_rerouted_lli_i_i_i a0 0 a3 a4) rfl))))))) fun x21 => (a_i (q_on (a_p rfl (a_p rfl (a_p rfl (a_p rfl (a_0 (rf_chk (n_law_rerouted_lli_i_i_i a0 1 a3 a5) rfl))))))) fun x22 => (a_0 (rf_ok rfl)))))) fun x23 => (op_catLL (e := (eL (eL D.int))))))) fun _ => rfl) fun x24 =>
  (t_seq fin_F (fun x29 : (List (List (List Int))) => [some ((eL (eL D.int)) a0), some ((eL D.int) a1), some (D.int a2), some (D.int a3), some (D.int a4), some (D.int a5), some (D.int a6), some (D.int (a1.length : Int)), some ((eL D.int) x3), some ((eL D.int) x8), some ((eL D.int) x11), some ((eL D.int) x14), some ((eL (eL (eL D.int))) x29), none, none]) (s_set (e := (eL (eL (eL D.int)))) _ (q_f2 (b_p rfl (b_i (q_on (a_i (q_on (a_p rfl (a_p rfl (a_p rfl (a_p rfl (a_0 (rf_chk (n_law_rerouted_lli_i_i_i a0 1 a3 a4) rfl))))))) fun x25 => (a_i (q_on (a_p rfl (a_p rfl (a_p rfl (a_p rfl (a_0 (rf_chk (n_law_swapped_lli_i_i_i a0 0 a3 a4) rfl))))))) fun x26 => (a_i (q_on (a_p rfl (a_p rfl (a_p rfl (a_p rfl (a_0 (rf_chk (n_law_swapped_lli_i_i_i a0 1 a3 a5) rfl))))))) fun x27 => (a_0 (rf_ok rfl)))))) fun x28 => (op_catLL (e := (eL (eL D.int))))))) fun _ => rfl) fun x29 =>
  (t_seq fin_F (fun x34 : (List (List (List Int))) => [some ((eL (eL D.int)) a0), some ((eL D.int) a1), some (D.int a2), some (D.int a3), some (D.int a4), some (D.int a5), some (D.int a6), some (D.int (a1.length : Int)), some ((eL D.int) x3), some ((eL D.int) x8), some ((eL D.int) x11), some ((eL D.int) x14), some ((eL (eL (eL D.int))) x34), none, none]) (s_set (e := (eL (eL (eL D.int)))) _ (q_f2 (b_p rfl (b_i (q_on (a_i (q_on (a_p rfl (a_p rfl (a_p rfl (a_p rfl (a_0 (rf_chk (n_law_swapped_lli_i_i_i a0 2 a3 a4) rfl))))))) fun x30 => (a_i (q_on (a_p rfl (a_p rfl (a_p rfl (a_0 (rf_chk (n_law_replaced_lli_i_li a0 a2 x8) rfl)))))) fun x31 => (a_i (q_on (a_p rfl (a_p rfl (a_p rfl (a_0 (rf_chk (n_law_replaced_lli_i_li a0 a2 x11) rfl)))))) fun x32 => (a_0 (rf_ok rfl)))))) fun x33 => (op_catLL (e := (eL (eL D.int))))))) fun _ => rfl) fun x34 =>
  (t_seq fin_F (fun x40 : (List (List (List Int))) => [some ((eL (eL D.int)) a0), some ((eL D.int) a1), some (D.int a2), some (D.int a3), some (D.int a4), some (D.int a5), some (D.int a6), some (D.int (a1.length : Int)), some ((eL D.int) x3), some ((eL D.int) x8), some ((eL D.int) x11), some ((eL D.int) x14), some ((eL (eL (eL D.int))) x40), none, none]) (s_set (e := (eL (eL (eL D.int)))) _ (q_f2 (b_p rfl (b_i (q_on (a_i (q_on (a_p rfl (a_p rfl (a_p rfl (a_0 (rf_chk (n_law_replaced_lli_i_li a0 a2 x14) rfl)))))) fun x37 => (a_i (q_on (a_p rfl (a_p rfl (a_i (q_Cut (b_i (q_f2 (b_p rfl (b_p rfl op_ixL))) fun x35 => (b_p rfl (b_p rfl (rf_ok op_cutL))))) fun x36 => (a_0 (rf_chk (n_law_replaced_lli_i_li a0 a2 x36) rfl)))))) fun x38 => (a_0 (rf_ok rfl))))) fun x39 => (op_catLL (e := (eL (eL D.int))))))) fun _ => rfl) fun x40 =>
  (t_end (t_retF (q_f2 (b_p rfl (b_i (q_on (a_i (q_on (a_p rfl (a_p rfl (a_i (q_f2 (b_i (q_f2 (b_p rfl (b_p rfl op_ixL))) fun x41 => (b_p rfl (op_catLL (e := D.int))))) fun x42 => (a_0 (rf_chk (n_law_replaced_lli_i_li a0 a2 x42) rfl)))))) fun x45 => (a_i (q_on (a_p rfl (a_p rfl (a_i (q_f2 (b_i (q_f2 (b_p rfl (b_p rfl op_ixL))) fun x43 => (b_p rfl (op_catLL (e := D.int))))) fun x44 => (a_0 (rf_chk (n_law_replaced_lli_i_li a0 a2 x44) rfl)))))) fun x46 => (a_0 (rf_ok rfl))))) fun x47 => (op_catLL (e := (eL (eL D.int))))))))))))))))))))))
def N_law_papers_judged_i_i_li_lli_li (a0 : Int) (a1 : Int) (a2 : (List Int)) (a3 : (List (List Int))) (a4 : (List Int)) : Res Bool :=
  ((((ixR a4 0).bind fun x1 => (Res.ok x1)).bind fun x2 => (modR x2 a0)).bind fun x3 =>
  ((((ixR a4 1).bind fun x4 => (Res.ok x4)).bind fun x5 => (modR x5 a1)).bind fun x6 =>
  (((mulR x3 a1).bind fun x7 => (Res.ok (x7 + x6))).bind fun x8 =>
  (((((((((ixR a4 2).bind fun x9 => (Res.ok x9)).bind fun x10 => (modR x10 (if (a0 - 1) > 1 then (a0 - 1) else 1))).bind fun x11 => (Res.ok ((x3 + 1) + x11))).bind fun x12 => (Res.ok x12)).bind fun x13 => (modR x13 a0)).bind fun x14 => (mulR x14 a1)).bind fun x15 => (Res.ok (x15 + x6))).bind fun x16 =>
  (((mulR x3 a1).bind fun x22 => (((((((ixR a4 3).bind fun x17 => (Res.ok x17)).bind fun x18 => (modR x18 (if (a1 - 1) > 1 then (a1 - 1) else 1))).bind fun x19 => (Res.ok ((x6 + 1) + x19))).bind fun x20 => (Res.ok x20)).bind fun x21 => (modR x21 a1)).bind fun x23 => (Res.ok (x22 + x23)))).bind fun x24 =>
  ((((ixR a4 5).bind fun x28 => (((ixR a4 5).bind fun x25 => (Res.ok ((-1) - x25))).bind fun x29 => ((mulR a0 a1).bind fun x30 => ((((ixR a4 5).bind fun x26 => (Res.ok x26)).bind fun x27 => (Res.ok (x27 % 24))).bind fun x31 => (Res.ok [x28, x29, x30, x31]))))).bind fun x32 => ((ixR a4 4).bind fun x33 => (ixR x32 x33))).bind fun x34 =>
  (((ixR a4 6).bind fun x35 => (N_law_papers_lli_li_i_i_i_i_i a3 a2 x35 x8 x16 x24 x34)).bind fun x47 => ((forC (σ := Unit) (β := Bool) (fun x36 x37 => (((N_law_judged_i_i_li_lli a0 a1 a2 x37).bind fun x38 => Res.ok (!x38)).bind fun x39 => if x39 = true then Res.ok (.ret false) else
  Res.ok (.go ()))) x47 ()).bind (ctlK (fun x40 => (((N_law_judged_i_i_li_lli a1 a0 a2 a3).bind fun x41 => Res.ok (!x41)).bind fun x46 => if x46 = true then (Res.ok false) else
  (((ixR a2 x16).bind fun x42 => (setR a2 x8 x42)).bind fun x43 =>
  (((ixR a2 x8).bind fun x44 => (setR x43 x16 x44)).bind fun x45 =>
  (N_law_judged_i_i_li_lli a0 a1 x45 a3))))) (fun v => v))))))))))
theorem n_law_papers_judged_i_i_li_lli_li (a0 : Int) (a1 : Int) (a2 : (List Int)) (a3 : (List (List Int))) (a4 : (List Int)) : Rf (m_law_papers_judged [D.int a0, D.int a1, (eL D.int) a2, (eL (eL D.int)) a3, (eL D.int) a4]) (N_law_papers_judged_i_i_li_lli_li a0 a1 a2 a3 a4) D.bl :=
  n_runF ((t_seq fin_F (fun x3 : Int => [some (D.int a0), some (D.int a1), some ((eL D.int) a2), some ((eL (eL D.int)) a3), some ((eL D.int) a4), some (D.int x3), none, none, none, none, none, none, none]) (s_set (e := D.int) _ (q_f2 (b_i (q_on (a_i (q_f2 (b_p rfl (b_p rfl op_ixL))) fun x1 => (a_0 (rf_ok rfl)))) fun x2 => (b_p rfl op_mod))) fun _ => rfl) fun x3 =>
  (t_seq fin_F (fun x6 : Int => [some (D.int a0), some (D.int a1), some ((eL D.int) a2), some ((eL (eL D.int)) a3), some ((eL D.int) a4), some (D.int x3), some (D.int x6), none, none, none, none, none, none]) (s_set (e := D.int) _ (q_f2 (b_i (q_on (a_i (q_f2 (b_p rfl (b_p rfl op_ixL))) fun x4 => (a_0 (rf_ok rfl)))) fun x5 => (b_p rfl op_mod))) fun _ => rfl) fun x6 =>
  (t_seq fin_F (fun x8 : Int => [some (D.int a0), some (D.int a1), some ((eL D.int) a2), some ((eL (eL D.int)) a3), some ((eL D.int) a4), some (D.int x3), some (D.int x6), some (D.int x8), none, none, none, none, none]) (s_set (e := D.int) _ (q_f2 (b_i (q_f2 (b_p rfl (b_p rfl op_mul))) fun x7 => (b_p rfl (rf_ok rfl)))) fun _ => rfl) fun x8 =>
  (t_seq fin_F (fun x16 : Int => [some (D.int a0), some (D.int a1), some ((eL D.int) a2), some ((eL (eL D.int)) a3), some ((eL D.int) a4), some (D.int x3), some (D.int x6), some (D.int x8), some (D.int x16), none, none, none, none]) (s_set (e := D.int) _ (q_f2 (b_i (q_f2 (b_i (q_f2 (b_i (q_on (a_i (q_f2 (b_p rfl (b_i (q_f2 (b_i (q_on (a_i (q_f2 (b_p rfl (b_p rfl op_ixL))) fun x9 => (a_0 (rf_ok rfl)))) fun x10 => (b_p rfl op_mod))) fun x11 => (rf_ok rfl)))) fun x12 => (a_0 (rf_ok rfl)))) fun x13 => (b_p rfl op_mod))) fun x14 => (b_p rfl op_mul))) fun x15 => (b_p rfl (rf_ok rfl)))) fun _ => rfl) fun x16 =>
  (t_seq fin_F (fun x24 : Int => [some (D.int a0), some (D.int a1), some ((eL D.int) a2), some ((eL (eL D.int)) a3), some ((eL D.int) a4), some (D.int x3), some (D.int x6), some (D.int x8), some (D.int x16), some (D.int x24), none, none, none]) (s_set (e := D.int) _ (q_f2 (b_i (q_f2 (b_p rfl (b_p rfl op_mul))) fun x22 => (b_i (q_f2 (b_i (q_on (a_i (q_f2 (b_p rfl (b_i (q_f2 (b_i (q_on (a_i (q_f2 (b_p rfl (b_p rfl op_ixL))) fun x17 => (a_0 (rf_ok rfl)))) fun x18 => (b_p rfl op_mod))) fun x19 => (rf_ok rfl)))) fun x20 => (a_0 (rf_ok rfl)))) fun x21 => (b_p rfl op_mod))) fun x23 => (rf_ok rfl)))) fun _ => rfl) fun x24 =>
  (t_seq fin_F (fun x34 : Int => [some (D.int a0), some (D.int a1), some ((eL D.int) a2), some ((eL (eL D.int)) a3), some ((eL D.int) a4), some (D.int x3), some (D.int x6), some (D.int x8), some (D.int x16), some (D.int x24), some (D.int x34), none, none]) (s_set (e := D.int) _ (q_f2 (b_i (q_on (a_i (q_f2 (b_p rfl (b_p rfl op_ixL))) fun x28 => (a_i (q_f2 (b_p rfl (b_i (q_f2 (b_p rfl (b_p rfl op_ixL))) fun x25 => (rf_ok rfl)))) fun x29 => (a_i (q_f2 (b_p rfl (b_p rfl op_mul))) fun x30 => (a_i (q_f2 (b_i (q_on (a_i (q_f2 (b_p rfl (b_p rfl op_ixL))) fun x26 => (a_0 (rf_ok rfl)))) fun x27 => (b_p rfl (rf_ok (op_modp (by decide)))))) fun x31 => (a_0 (rf_ok rfl))))))) fun x32 => (b_i (q_f2 (b_p rfl (b_p rfl op_ixL))) fun x33 => op_ixL))) fun _ => rfl) fun x34 =>
  (t_forC (ex := (eL (eL D.int))) (e := D.bl) (s0 := ()) (rk := (fun v => v)) fin_F (q_L (b_iL (q := (eL (eL (eL D.int)))) (e := (eL (eL D.int))) (q_on (a_p rfl (a_p rfl (a_i (q_f2 (b_p rfl (b_p rfl op_ixL))) fun x35 => (a_p rfl (a_p rfl (a_p rfl (a_p rfl (a_0 (rf_chk (n_law_papers_lli_li_i_i_i_i_i a3 a2 x35 x8 x16 x24 x34) rfl)))))))))) fun _ => rfl)) (fun x36 : Unit => [some (D.int a0), some (D.int a1), some ((eL D.int) a2), some ((eL (eL D.int)) a3), some ((eL D.int) a4), some (D.int x3), some (D.int x6), some (D.int x8), some (D.int x16), some (D.int x24), some (D.int x34), none, none]) (fun (x36 : Unit) (x37 : (List (List Int))) => [some (D.int a0), some (D.int a1), some ((eL D.int) a2), some ((eL (eL D.int)) a3), some ((eL D.int) a4), some (D.int x3), some (D.int x6), some (D.int x8), some (D.int x16), some (D.int x24), some (D.int x34), some ((eL (eL D.int)) x37), none]) rfl (fun _ _ => rfl) (fun x36 x37 =>
  (t_ifI fin_L (q_Not (b_i (q_Tr (b_iT (q_on (a_p rfl (a_p rfl (a_p rfl (a_p rfl (a_0 (rf_chk (n_law_judged_i_i_li_lli a0 a1 a2 x37) rfl))))))))) fun _ => rf_ok rfl)) (t_retp rfl rfl)
  (t_nextS (t_next rfl)))) (fun x40 =>
  (t_ifI fin_F (q_Not (b_i (q_Tr (b_iT (q_on (a_p rfl (a_p rfl (a_p rfl (a_p rfl (a_0 (rf_chk (n_law_judged_i_i_li_lli a1 a0 a2 a3) rfl))))))))) fun _ => rf_ok rfl)) (t_retF (rf_ok (e := D.bl) rfl))
  (t_nextS (t_seqp [some (D.int a0), some (D.int a1), some ((eL D.int) a2), some ((eL (eL D.int)) a3), some ((eL D.int) a4), some (D.int x3), some (D.int x6), some (D.int x8), some (D.int x16), some (D.int x24), some (D.int x34), none, some ((eL D.int) a2)] (set_p rfl rfl) (t_seq fin_F (fun x43 : (List Int) => [some (D.int a0), some (D.int a1), some ((eL D.int) a2), some ((eL (eL D.int)) a3), some ((eL D.int) a4), some (D.int x3), some (D.int x6), some (D.int x8), some (D.int x16), some (D.int x24), some (D.int x34), none, some ((eL D.int) x43)]) (s_setIxI (e := D.int) (xs := a2) (fun ys : (List Int) => [some (D.int a0), some (D.int a1), some ((eL D.int) a2), some ((eL (eL D.int)) a3), some ((eL D.int) a4), some (D.int x3), some (D.int x6), some (D.int x8), some (D.int x16), some (D.int x24), some (D.int x34), none, some ((eL D.int) ys)]) rfl (q_f2 (b_p rfl (b_p rfl op_ixL))) rfl fun _ => rfl) fun x43 =>
  (t_seq fin_F (fun x45 : (List Int) => [some (D.int a0), some (D.int a1), some ((eL D.int) a2), some ((eL (eL D.int)) a3), some ((eL D.int) a4), some (D.int x3), some (D.int x6), some (D.int x8), some (D.int x16), some (D.int x24), some (D.int x34), none, some ((eL D.int) x45)]) (s_setIxI (e := D.int) (xs := x43) (fun ys : (List Int) => [some (D.int a0), some (D.int a1), some ((eL D.int) a2), some ((eL (eL D.int)) a3), some ((eL D.int) a4), some (D.int x3), some (D.int x6), some (D.int x8), some (D.int x16), some (D.int x24), some (D.int x34), none, some ((eL D.int) ys)]) rfl (q_f2 (b_p rfl (b_p rfl op_ixL))) rfl fun _ => rfl) fun x45 =>
  (t_end (t_retF (q_on (a_p rfl (a_p rfl (a_p rfl (a_p rfl (a_0 (rf_chk (n_law_judged_i_i_li_lli a0 a1 x45 a3) rfl))))))))))))))) fun _ => rfl))))))))
def N_column_square_i_i_ti (a0 : Int) (a1 : Int) (a2 : (List Int)) : Res (List (List Int)) :=
  (((rngR a1).bind fun x4 => lcR x4 (fun x1 => Res.ok true) (fun x1 => ((rngR a1).bind fun x3 => lcR x3 (fun x2 => Res.ok true) (fun x2 => (Res.ok 0))))).bind fun x5 =>
  ((((mulR a0 a1).bind fun x6 => (rngR x6)).bind fun x15 => (forR (σ := (List (List Int))) (fun x7 x8 => (((modR x8 a1).bind fun x10 => (nx ((ixR a2 x8).bind fun x9 => (modR x9 a1))).bind fun x11 => (nx (Res.ok 1)).bind fun x12 => aug2R x7 x10 x11 fun x13 => x13 + x12).bind fun x14 =>
  Res.ok x14)) x15 x5)).bind fun x16 =>
  (Res.ok x16)))
theorem n_column_square_i_i_ti (a0 : Int) (a1 : Int) (a2 : (List Int)) : Rf (m_column_square [D.int a0, D.int a1, (eT D.int) a2]) (N_column_square_i_i_ti a0 a1 a2) (eL (eL D.int)) :=
  n_runF ((t_seq fin_F (fun x5 : (List (List Int)) => [some (D.int a0), some (D.int a1), some ((eT D.int) a2), some ((eL (eL D.int)) x5), none, none, none]) (s_set (e := (eL (eL D.int))) _ (rf_lc (q_R1 (a_p rfl (a_0 k_R1))) (fun x1 : Int => [some (D.int a0), some (D.int a1), some ((eT D.int) a2), none, none, some (D.int x1), none]) (fun _ => rfl) (fun x1 => (rf_ok (v := true) rfl)) (fun x1 => (rf_lc (q_R1 (a_p rfl (a_0 k_R1))) (fun x2 : Int => [some (D.int a0), some (D.int a1), some ((eT D.int) a2), none, none, some (D.int x1), some (D.int x2)]) (fun _ => rfl) (fun x2 => (rf_ok (v := true) rfl)) (fun x2 => (rf_ok (e := D.int) rfl))))) fun _ => rfl) fun x5 =>
  (t_seq fin_F (fun x16 : (List (List Int)) => [some (D.int a0), some (D.int a1), some ((eT D.int) a2), some ((eL (eL D.int)) x16), none, none, none]) (s_for (ex := D.int) (s0 := x5) (q_R1 (a_i (q_f2 (b_p rfl (b_p rfl op_mul))) fun x6 => (a_0 k_R1))) (fun x7 : (List (List Int)) => [some (D.int a0), some (D.int a1), some ((eT D.int) a2), some ((eL (eL D.int)) x7), none, none, none]) (fun (x7 : (List (List Int))) (x8 : Int) => [some (D.int a0), some (D.int a1), some ((eT D.int) a2), some ((eL (eL D.int)) x7), some (D.int x8), none, none]) rfl (fun _ _ => rfl) fun x7 x8 =>
  (t_seq fin_L (fun x14 : (List (List Int)) => [some (D.int a0), some (D.int a1), some ((eT D.int) a2), some ((eL (eL D.int)) x14), some (D.int x8), none, none]) (s_aug2 (gi := fun i j => i + j) (xs := x7) (fun ys : (List (List Int)) => [some (D.int a0), some (D.int a1), some ((eT D.int) a2), some ((eL (eL D.int)) ys), some (D.int x8), none, none]) rfl (rf_ok (e := D.int) rfl) (q_f2 (b_p rfl (b_p rfl op_mod))) (q_f2 (b_i (q_f2 (b_p rfl (b_p rfl op_ixT))) fun x9 => (b_p rfl op_mod))) fun _ => rfl) fun x14 =>
  (t_next rfl))) fun x16 =>
  (t_end (t_retF (rf_ok (e := (eL (eL D.int))) rfl))))))
def N_chosen_rows_i_i_ti (a0 : Int) (a1 : Int) (a2 : (List Int)) : Res (List (Option Int)) :=
  ((((mulR a0 a1).bind fun x1 => (rngR x1)).bind fun x3 => lcR x3 (fun x2 => Res.ok true) (fun x2 => (Res.ok none))).bind fun x4 =>
  (((((N_column_square_i_i_ti a0 a1 a2).bind fun x5 => (N_parted_lli x5)).bind fun x6 => Res.ok (enumI 0 x6)).bind fun x24 => (forR (σ := (List (Option Int))) (fun x7 x8 => ((forR (σ := (List (Option Int))) (fun x9 x10 => (((rngR a0).bind fun x21 => ((forC (σ := (List (Option Int))) (β := Unit) (fun x11 x12 => (((mulR x12 a1).bind fun x13 => (Res.ok (x13 + x10.1))).bind fun x14 =>
  ((((ixR x11 x14).bind fun x15 => (Res.ok (Option.isNone x15))).bind fun x18 => (if x18 = true then (((ixR a2 x14).bind fun x16 => (modR x16 a1)).bind fun x17 => (Res.ok (decide (x17 = x10.2)))) else Res.ok false)).bind fun x20 => if x20 = true then ((setR x11 x14 (some x8.1)).bind fun x19 =>
  Res.ok (.out x19)) else
  Res.ok (.go x11)))) x21 x9).bind (ctlS (β := Unit)))).bind fun x22 =>
  Res.ok x22)) (enumI 0 x8.2) x7).bind fun x23 =>
  Res.ok x23)) x24 x4)).bind fun x25 =>
  (Res.ok x25)))
theorem n_chosen_rows_i_i_ti (a0 : Int) (a1 : Int) (a2 : (List Int)) : Rf (m_chosen_rows [D.int a0, D.int a1, (eT D.int) a2]) (N_chosen_rows_i_i_ti a0 a1 a2) (eL (eO D.int)) :=
  n_runF ((t_seq fin_F (fun x4 : (List (Option Int)) => [some (D.int a0), some (D.int a1), some ((eT D.int) a2), some ((eL (eO D.int)) x4), none, none, none, none, none, none]) (s_set (e := (eL (eO D.int))) _ (rf_lc (q_R1 (a_i (q_f2 (b_p rfl (b_p rfl op_mul))) fun x1 => (a_0 k_R1))) (fun x2 : Int => [some (D.int a0), some (D.int a1), some ((eT D.int) a2), none, none, none, some (D.int x2), none, none, none]) (fun _ => rfl) (fun x2 => (rf_ok (v := true) rfl)) (fun x2 => (rf_ok (e := (eO D.int)) rfl))) fun _ => rfl) fun x4 =>
  (t_seq fin_F (fun x25 : (List (Option Int)) => [some (D.int a0), some (D.int a1), some ((eT D.int) a2), some ((eL (eO D.int)) x25), none, none, none, none, none, none]) (s_for (ex := (eP2 D.int (eT D.int))) (s0 := x4) (q_En (a_i (q_on (a_i (q_on (a_p rfl (a_p rfl (a_p rfl (a_0 (rf_chk (n_column_square_i_i_ti a0 a1 a2) rfl)))))) fun x5 => (a_0 (rf_chk (n_parted_lli x5) rfl)))) fun x6 => a_0 (rf_ok k_enT))) (fun x7 : (List (Option Int)) => [some (D.int a0), some (D.int a1), some ((eT D.int) a2), some ((eL (eO D.int)) x7), none, none, none, none, none, none]) (fun (x7 : (List (Option Int))) (x8 : (Int × (List Int))) => [some (D.int a0), some (D.int a1), some ((eT D.int) a2), some ((eL (eO D.int)) x7), some (D.int x8.1), some ((eT D.int) x8.2), none, none, none, none]) rfl (fun _ _ => rfl) fun x7 x8 =>
  (t_seq fin_L (fun x23 : (List (Option Int)) => [some (D.int a0), some (D.int a1), some ((eT D.int) a2), some ((eL (eO D.int)) x23), some (D.int x8.1), some ((eT D.int) x8.2), none, none, none, none]) (s_forp (ex := (eP2 D.int D.int)) (s0 := x7) (it_enT (e := D.int) (xs := x8.2) rfl) (fun x9 : (List (Option Int)) => [some (D.int a0), some (D.int a1), some ((eT D.int) a2), some ((eL (eO D.int)) x9), some (D.int x8.1), some ((eT D.int) x8.2), none, none, none, none]) (fun (x9 : (List (Option Int))) (x10 : (Int × Int)) => [some (D.int a0), some (D.int a1), some ((eT D.int) a2), some ((eL (eO D.int)) x9), some (D.int x8.1), some ((eT D.int) x8.2), none, some (D.int x10.1), some (D.int x10.2), none]) rfl (fun _ _ => rfl) fun x9 x10 =>
  (t_seq fin_L (fun x22 : (List (Option Int)) => [some (D.int a0), some (D.int a1), some ((eT D.int) a2), some ((eL (eO D.int)) x22), some (D.int x8.1), some ((eT D.int) x8.2), none, some (D.int x10.1), some (D.int x10.2), none]) (s_forB (ex := D.int) (s0 := x9) (q_R1 (a_p rfl (a_0 k_R1))) (fun x11 : (List (Option Int)) => [some (D.int a0), some (D.int a1), some ((eT D.int) a2), some ((eL (eO D.int)) x11), some (D.int x8.1), some ((eT D.int) x8.2), none, some (D.int x10.1), some (D.int x10.2), none]) (fun (x11 : (List (Option Int))) (x12 : Int) => [some (D.int a0), some (D.int a1), some ((eT D.int) a2), some ((eL (eO D.int)) x11), some (D.int x8.1), some ((eT D.int) x8.2), none, some (D.int x10.1), some (D.int x10.2), some (D.int x12)]) rfl (fun _ _ => rfl) fun x11 x12 =>
  (t_assoc (t_seq fin_L (fun x14 : Int => [some (D.int a0), some (D.int a1), some ((eT D.int) a2), some ((eL (eO D.int)) x11), some (D.int x8.1), some ((eT D.int) x8.2), some (D.int x14), some (D.int x10.1), some (D.int x10.2), some (D.int x12)]) (s_set (e := D.int) _ (q_f2 (b_i (q_f2 (b_p rfl (b_p rfl op_mul))) fun x13 => (b_p rfl (rf_ok rfl)))) fun _ => rfl) fun x14 =>
  (t_ifI fin_L (rAndI (q_B (b_iB (q_f1 (b_i (q_f2 (b_p rfl (b_p rfl op_ixL))) fun x15 => (rf_ok (op_isN fun _ => rfl)))))) (q_B (b_iB (q_f2 (b_i (q_f2 (b_i (q_f2 (b_p rfl (b_p rfl op_ixT))) fun x16 => (b_p rfl op_mod))) fun x17 => (b_p rfl (rf_ok (op_eq (e := D.int) (x := x17) (x' := x10.2))))))))) (t_assoc (t_seq fin_L (fun x19 : (List (Option Int)) => [some (D.int a0), some (D.int a1), some ((eT D.int) a2), some ((eL (eO D.int)) x19), some (D.int x8.1), some ((eT D.int) x8.2), some (D.int x14), some (D.int x10.1), some (D.int x10.2), some (D.int x12)]) (s_setIx (e := (eO D.int)) (xs := x11) (d := (some x8.1)) (fun ys : (List (Option Int)) => [some (D.int a0), some (D.int a1), some ((eT D.int) a2), some ((eL (eO D.int)) ys), some (D.int x8.1), some ((eT D.int) x8.2), some (D.int x14), some (D.int x10.1), some (D.int x10.2), some (D.int x12)]) rfl rfl rfl fun _ => rfl) fun x19 =>
  (t_brk rfl)))
  (t_nextS (t_next rfl)))))) fun x22 =>
  (t_next rfl))) fun x23 =>
  (t_next rfl))) fun x25 =>
  (t_end (t_retF (rf_ok (e := (eL (eO D.int))) rfl))))))
def N_three_legs_i_i_li (a0 : Int) (a1 : Int) (a2 : (List Int)) : Res ((List Int) × (List Int) × (List Int)) :=
  ((N_frozen_li a2).bind fun x1 =>
  ((N_chosen_rows_i_i_ti a0 a1 x1).bind fun x2 =>
  ((lcR x1 (fun x3 => Res.ok true) (fun x3 => (Res.ok 0))).bind fun x4 =>
  ((lcR x1 (fun x5 => Res.ok true) (fun x5 => (Res.ok 0))).bind fun x6 =>
  ((lcR x1 (fun x7 => Res.ok true) (fun x7 => (Res.ok 0))).bind fun x8 =>
  ((forR (σ := ((List Int) × (List Int) × (List Int))) (fun x9 x10 => (((((ixR x2 x10.1).bind unO).bind fun x11 => (mulR x11 a1)).bind fun x12 => ((modR x10.1 a1).bind fun x13 => (Res.ok (x12 + x13)))).bind fun x14 =>
  (((((ixR x2 x10.1).bind unO).bind fun x15 => (mulR x15 a1)).bind fun x16 => ((modR x10.2 a1).bind fun x17 => (Res.ok (x16 + x17)))).bind fun x18 =>
  ((setR x9.1 x10.1 x14).bind fun x19 =>
  ((setR x9.2.1 x14 x18).bind fun x20 =>
  ((setR x9.2.2 x18 x10.2).bind fun x21 =>
  Res.ok (x19, x20, x21))))))) (enumI 0 x1) (x4, x6, x8)).bind fun x22 =>
  (Res.ok (x22.1, x22.2.1, x22.2.2))))))))
theorem n_three_legs_i_i_li (a0 : Int) (a1 : Int) (a2 : (List Int)) : Rf (m_three_legs [D.int a0, D.int a1, (eL D.int) a2]) (N_three_legs_i_i_li a0 a1 a2) (eP3 (eT D.int) (eT D.int) (eT D.int)) :=
  n_runF ((t_seq fin_F (fun x1 : (List Int) => [some (D.int a0), some (D.int a1), some ((eT D.int) x1), none, none, none, none, none, none, none, none]) (s_set (e := (eT D.int)) _ (q_on (a_p rfl (a_0 (rf_chk (n_frozen_li a2) rfl)))) fun _ => rfl) fun x1 =>
  (t_seq fin_F (fun x2 : (List (Option Int)) => [some (D.int a0), some (D.int a1), some ((eT D.int) x1), some ((eL (eO D.int)) x2), none, none, none, none, none, none, none]) (s_set (e := (eL (eO D.int))) _ (q_on (a_p rfl (a_p rfl (a_p rfl (a_0 (rf_chk (n_chosen_rows_i_i_ti a0 a1 x1) rfl)))))) fun _ => rfl) fun x2 =>
  (t_seq fin_F (fun x4 : (List Int) => [some (D.int a0), some (D.int a1), some ((eT D.int) x1), some ((eL (eO D.int)) x2), some ((eL D.int) x4), none, none, none, none, none, none]) (s_set (e := (eL D.int)) _ (rf_lcp (it_T (e := D.int) (xs := x1) rfl) (fun x3 : Int => [some (D.int a0), some (D.int a1), some ((eT D.int) x1), some ((eL (eO D.int)) x2), none, none, none, some (D.int x3), none, none, none]) (fun _ => rfl) (fun x3 => (rf_ok (v := true) rfl)) (fun x3 => (rf_ok (e := D.int) rfl))) fun _ => rfl) fun x4 =>
  (t_seq fin_F (fun x6 : (List Int) => [some (D.int a0), some (D.int a1), some ((eT D.int) x1), some ((eL (eO D.int)) x2), some ((eL D.int) x4), some ((eL D.int) x6), none, none, none, none, none]) (s_set (e := (eL D.int)) _ (rf_lcp (it_T (e := D.int) (xs := x1) rfl) (fun x5 : Int => [some (D.int a0), some (D.int a1), some ((eT D.int) x1), some ((eL (eO D.int)) x2), some ((eL D.int) x4), none, none, some (D.int x5), none, none, none]) (fun _ => rfl) (fun x5 => (rf_ok (v := true) rfl)) (fun x5 => (rf_ok (e := D.int) rfl))) fun _ => rfl) fun x6 =>
  (t_seq fin_F (fun x8 : (List Int) => [some (D.int a0), some (D.int a1), some ((eT D.int) x1), some ((eL (eO D.int)) x2), some ((eL D.int) x4), some ((eL D.int) x6), some ((eL D.int) x8), none, none, none, none]) (s_set (e := (eL D.int)) _ (rf_lcp (it_T (e := D.int) (xs := x1) rfl) (fun x7 : Int => [some (D.int a0), some (D.int a1), some ((eT D.int) x1), some ((eL (eO D.int)) x2), some ((eL D.int) x4), some ((eL D.int) x6), none, some (D.int x7), none, none, none]) (fun _ => rfl) (fun x7 => (rf_ok (v := true) rfl)) (fun x7 => (rf_ok (e := D.int) rfl))) fun _ => rfl) fun x8 =>
  (t_seq fin_F (fun x22 : ((List Int) × (List Int) × (List Int)) => [some (D.int a0), some (D.int a1), some ((eT D.int) x1), some ((eL (eO D.int)) x2), some ((eL D.int) x22.1), some ((eL D.int) x22.2.1), some ((eL D.int) x22.2.2), none, none, none, none]) (s_forp (ex := (eP2 D.int D.int)) (s0 := (x4, x6, x8)) (it_enT (e := D.int) (xs := x1) rfl) (fun x9 : ((List Int) × (List Int) × (List Int)) => [some (D.int a0), some (D.int a1), some ((eT D.int) x1), some ((eL (eO D.int)) x2), some ((eL D.int) x9.1), some ((eL D.int) x9.2.1), some ((eL D.int) x9.2.2), none, none, none, none]) (fun (x9 : ((List Int) × (List Int) × (List Int))) (x10 : (Int × Int)) => [some (D.int a0), some (D.int a1), some ((eT D.int) x1), some ((eL (eO D.int)) x2), some ((eL D.int) x9.1), some ((eL D.int) x9.2.1), some ((eL D.int) x9.2.2), some (D.int x10.1), some (D.int x10.2), none, none]) rfl (fun _ _ => rfl) fun x9 x10 =>
  (t_assoc (t_seq fin_L (fun x14 : Int => [some (D.int a0), some (D.int a1), some ((eT D.int) x1), some ((eL (eO D.int)) x2), some ((eL D.int) x9.1), some ((eL D.int) x9.2.1), some ((eL D.int) x9.2.2), some (D.int x10.1), some (D.int x10.2), some (D.int x14), none]) (s_set (e := D.int) _ (q_f2 (b_i (q_f2 (b_i (rf_unOI (q_f2 (b_p rfl (b_p rfl op_ixL)))) fun x11 => (b_p rfl op_mul))) fun x12 => (b_i (q_f2 (b_p rfl (b_p rfl op_mod))) fun x13 => (rf_ok rfl)))) fun _ => rfl) fun x14 =>
  (t_assoc (t_seq fin_L (fun x18 : Int => [some (D.int a0), some (D.int a1), some ((eT D.int) x1), some ((eL (eO D.int)) x2), some ((eL D.int) x9.1), some ((eL D.int) x9.2.1), some ((eL D.int) x9.2.2), some (D.int x10.1), some (D.int x10.2), some (D.int x14), some (D.int x18)]) (s_set (e := D.int) _ (q_f2 (b_i (q_f2 (b_i (rf_unOI (q_f2 (b_p rfl (b_p rfl op_ixL)))) fun x15 => (b_p rfl op_mul))) fun x16 => (b_i (q_f2 (b_p rfl (b_p rfl op_mod))) fun x17 => (rf_ok rfl)))) fun _ => rfl) fun x18 =>
  (t_assoc (t_seq fin_L (fun x19 : (List Int) => [some (D.int a0), some (D.int a1), some ((eT D.int) x1), some ((eL (eO D.int)) x2), some ((eL D.int) x19), some ((eL D.int) x9.2.1), some ((eL D.int) x9.2.2), some (D.int x10.1), some (D.int x10.2), some (D.int x14), some (D.int x18)]) (s_setIx (e := D.int) (xs := x9.1) (d := x14) (fun ys : (List Int) => [some (D.int a0), some (D.int a1), some ((eT D.int) x1), some ((eL (eO D.int)) x2), some ((eL D.int) ys), some ((eL D.int) x9.2.1), some ((eL D.int) x9.2.2), some (D.int x10.1), some (D.int x10.2), some (D.int x14), some (D.int x18)]) rfl rfl rfl fun _ => rfl) fun x19 =>
  (t_assoc (t_seq fin_L (fun x20 : (List Int) => [some (D.int a0), some (D.int a1), some ((eT D.int) x1), some ((eL (eO D.int)) x2), some ((eL D.int) x19), some ((eL D.int) x20), some ((eL D.int) x9.2.2), some (D.int x10.1), some (D.int x10.2), some (D.int x14), some (D.int x18)]) (s_setIx (e := D.int) (xs := x9.2.1) (d := x18) (fun ys : (List Int) => [some (D.int a0), some (D.int a1), some ((eT D.int) x1), some ((eL (eO D.int)) x2), some ((eL D.int) x19), some ((eL D.int) ys), some ((eL D.int) x9.2.2), some (D.int x10.1), some (D.int x10.2), some (D.int x14), some (D.int x18)]) rfl rfl rfl fun _ => rfl) fun x20 =>
  (t_seq fin_L (fun x21 : (List Int) => [some (D.int a0), some (D.int a1), some ((eT D.int) x1), some ((eL (eO D.int)) x2), some ((eL D.int) x19), some ((eL D.int) x20), some ((eL D.int) x21), some (D.int x10.1), some (D.int x10.2), some (D.int x14), some (D.int x18)]) (s_setIx (e := D.int) (xs := x9.2.2) (d := x10.2) (fun ys : (List Int) => [some (D.int a0), some (D.int a1), some ((eT D.int) x1), some ((eL (eO D.int)) x2), some ((eL D.int) x19), some ((eL D.int) x20), some ((eL D.int) ys), some (D.int x10.1), some (D.int x10.2), some (D.int x14), some (D.int x18)]) rfl rfl rfl fun _ => rfl) fun x21 =>
  (t_next rfl))))))))))) fun x22 =>
  (t_end (t_retF (rf_ok (e := (eP3 (eT D.int) (eT D.int) (eT D.int))) rfl))))))))))
def N_law_right_i_i_li_ptititiq (a0 : Int) (a1 : Int) (a2 : (List Int)) (a3 : ((List Int) × (List Int) × (List Int))) : Res Bool :=
  ((mulR a0 a1).bind fun x1 =>
  ((forC (σ := Unit) (β := Bool) (fun x2 x3 => ((if (!decide ((x3.length : Int) = x1)) = true then Res.ok true else (((rngR x1).bind fun x5 => lcR x5 (fun x4 => Res.ok true) (fun x4 => (Res.ok x4))).bind fun x6 => (Res.ok (!decide ((x3.mergeSort leI) = x6))))).bind fun x7 => if x7 = true then Res.ok (.ret false) else
  Res.ok (.go ()))) [a3.1, a3.2.1, a3.2.2] ()).bind (ctlK (fun x8 => ((rngR x1).bind fun x29 => ((forC (σ := Unit) (β := Bool) (fun x9 x10 => (((ixR a3.1 x10).bind fun x11 => (Res.ok x11)).bind fun x12 =>
  (((ixR a3.2.1 x12).bind fun x13 => (Res.ok x13)).bind fun x14 =>
  (((ixR a3.2.2 x14).bind fun x15 => (Res.ok x15)).bind fun x16 =>
  ((((modR x12 a1).bind fun x17 => ((modR x10 a1).bind fun x18 => (Res.ok (!decide (x17 = x18))))).bind fun x21 => (if x21 = true then Res.ok true else ((divR x14 a1).bind fun x19 => ((divR x12 a1).bind fun x20 => (Res.ok (!decide (x19 = x20))))))).bind fun x27 => if x27 = true then Res.ok (.ret false) else
  ((((modR x16 a1).bind fun x22 => ((modR x14 a1).bind fun x23 => (Res.ok (!decide (x22 = x23))))).bind fun x25 => (if x25 = true then Res.ok true else ((ixR a2 x10).bind fun x24 => (Res.ok (!decide (x16 = x24)))))).bind fun x26 => if x26 = true then Res.ok (.ret false) else
  Res.ok (.go ()))))))) x29 ()).bind (ctlK (fun x28 => (Res.ok true)) (fun v => v))))) (fun v => v))))
theorem n_law_right_i_i_li_ptititiq (a0 : Int) (a1 : Int) (a2 : (List Int)) (a3 : ((List Int) × (List Int) × (List Int))) : Rf (m_law_right [D.int a0, D.int a1, (eL D.int) a2, (eP3 (eT D.int) (eT D.int) (eT D.int)) a3]) (N_law_right_i_i_li_ptititiq a0 a1 a2 a3) D.bl :=
  n_runF ((t_seq fin_F (fun x1 : Int => [some (D.int a0), some (D.int a1), some ((eL D.int) a2), some ((eP3 (eT D.int) (eT D.int) (eT D.int)) a3), some (D.int x1), none, none, none, none, none, none]) (s_set (e := D.int) _ (q_f2 (b_p rfl (b_p rfl op_mul))) fun _ => rfl) fun x1 =>
  (t_forCp (ex := (eT D.int)) (e := D.bl) (s0 := ()) (rk := (fun v => v)) fin_F (it_T (e := (eT D.int)) (xs := [a3.1, a3.2.1, a3.2.2]) rfl) (fun x2 : Unit => [some (D.int a0), some (D.int a1), some ((eL D.int) a2), some ((eP3 (eT D.int) (eT D.int) (eT D.int)) a3), some (D.int x1), none, none, none, none, none, none]) (fun (x2 : Unit) (x3 : (List Int)) => [some (D.int a0), some (D.int a1), some ((eL D.int) a2), some ((eP3 (eT D.int) (eT D.int) (eT D.int)) a3), some (D.int x1), some ((eT D.int) x3), none, none, none, none, none]) rfl (fun _ _ => rfl) (fun x2 x3 =>
  (t_ifI fin_L (rOr (evB (ev2 (evOn (evA rfl rfl) op_lenT) rfl (op_ne (e := D.int) (x := (x3.length : Int)) (x' := x1)))) (q_B (b_iB (q_f2 (b_p (evOn (evA rfl rfl) op_sortT) (b_i (rf_lc (q_R1 (a_p rfl (a_0 k_R1))) (fun x4 : Int => [some (D.int a0), some (D.int a1), some ((eL D.int) a2), some ((eP3 (eT D.int) (eT D.int) (eT D.int)) a3), some (D.int x1), some ((eT D.int) x3), none, none, none, none, some (D.int x4)]) (fun _ => rfl) (fun x4 => (rf_ok (v := true) rfl)) (fun x4 => (rf_ok (e := D.int) rfl))) fun x6 => (rf_ok (op_ne (e := (eL D.int)) (x := (x3.mergeSort leI)) (x' := x6))))))))) (t_retp rfl rfl)
  (t_nextS (t_next rfl)))) (fun x8 =>
  (t_forC (ex := D.int) (e := D.bl) (s0 := ()) (rk := (fun v => v)) fin_F (q_R1 (a_p rfl (a_0 k_R1))) (fun x9 : Unit => [some (D.int a0), some (D.int a1), some ((eL D.int) a2), some ((eP3 (eT D.int) (eT D.int) (eT D.int)) a3), some (D.int x1), none, none, none, none, none, none]) (fun (x9 : Unit) (x10 : Int) => [some (D.int a0), some (D.int a1), some ((eL D.int) a2), some ((eP3 (eT D.int) (eT D.int) (eT D.int)) a3), some (D.int x1), none, some (D.int x10), none, none, none, none]) rfl (fun _ _ => rfl) (fun x9 x10 =>
  (t_assoc (t_seq fin_L (fun x12 : Int => [some (D.int a0), some (D.int a1), some ((eL D.int) a2), some ((eP3 (eT D.int) (eT D.int) (eT D.int)) a3), some (D.int x1), none, some (D.int x10), some (D.int x12), none, none, none]) (s_set (e := D.int) _ (q_on (a_i (q_f2 (b_p rfl (b_p rfl op_ixT))) fun x11 => (a_0 (rf_ok rfl)))) fun _ => rfl) fun x12 =>
  (t_assoc (t_seq fin_L (fun x14 : Int => [some (D.int a0), some (D.int a1), some ((eL D.int) a2), some ((eP3 (eT D.int) (eT D.int) (eT D.int)) a3), some (D.int x1), none, some (D.int x10), some (D.int x12), some (D.int x14), none, none]) (s_set (e := D.int) _ (q_on (a_i (q_f2 (b_p rfl (b_p rfl op_ixT))) fun x13 => (a_0 (rf_ok rfl)))) fun _ => rfl) fun x14 =>
  (t_assoc (t_seq fin_L (fun x16 : Int => [some (D.int a0), some (D.int a1), some ((eL D.int) a2), some ((eP3 (eT D.int) (eT D.int) (eT D.int)) a3), some (D.int x1), none, some (D.int x10), some (D.int x12), some (D.int x14), some (D.int x16), none]) (s_set (e := D.int) _ (q_on (a_i (q_f2 (b_p rfl (b_p rfl op_ixT))) fun x15 => (a_0 (rf_ok rfl)))) fun _ => rfl) fun x16 =>
  (t_assoc (t_ifI fin_L (rOrI (q_B (b_iB (q_f2 (b_i (q_f2 (b_p rfl (b_p rfl op_mod))) fun x17 => (b_i (q_f2 (b_p rfl (b_p rfl op_mod))) fun x18 => (rf_ok (op_ne (e := D.int) (x := x17) (x' := x18)))))))) (q_B (b_iB (q_f2 (b_i (q_f2 (b_p rfl (b_p rfl op_div))) fun x19 => (b_i (q_f2 (b_p rfl (b_p rfl op_div))) fun x20 => (rf_ok (op_ne (e := D.int) (x := x19) (x' := x20))))))))) (t_retp rfl rfl)
  (t_nextS (t_ifI fin_L (rOrI (q_B (b_iB (q_f2 (b_i (q_f2 (b_p rfl (b_p rfl op_mod))) fun x22 => (b_i (q_f2 (b_p rfl (b_p rfl op_mod))) fun x23 => (rf_ok (op_ne (e := D.int) (x := x22) (x' := x23)))))))) (q_B (b_iB (q_f2 (b_p rfl (b_i (q_f2 (b_p rfl (b_p rfl op_ixL))) fun x24 => (rf_ok (op_ne (e := D.int) (x := x16) (x' := x24))))))))) (t_retp rfl rfl)
  (t_nextS (t_next rfl))))))))))))) (fun x28 =>
  (t_end (t_retF (rf_ok (e := D.bl) rfl)))) fun _ => rfl)) fun _ => rfl)))
def N_law_told_right_i_i_li_ptititiq (a0 : Int) (a1 : Int) (a2 : (List Int)) (a3 : ((List Int) × (List Int) × (List Int))) : Res Bool :=
  (if (!decide ((3 : Int) = 3)) = true then (Res.ok false) else
  ((forC (σ := Unit) (β := Bool) (fun x1 x2 => (((mulR a0 a1).bind fun x3 => (Res.ok (!decide ((x2.length : Int) = x3)))).bind fun x7 => if x7 = true then Res.ok (.ret false) else
  ((forC (σ := Unit) (β := Bool) (fun x4 x5 => Res.ok (.go ())) x2 ()).bind (ctlK (fun x6 => Res.ok (.go ())) (fun v => Ctl.ret v))))) [a3.1, a3.2.1, a3.2.2] ()).bind (ctlK (fun x8 => (N_law_right_i_i_li_ptititiq a0 a1 a2 a3)) (fun v => v))))
theorem n_law_told_right_i_i_li_ptititiq (a0 : Int) (a1 : Int) (a2 : (List Int)) (a3 : ((List Int) × (List Int) × (List Int))) : Rf (m_law_told_right [D.int a0, D.int a1, (eL D.int) a2, (eP3 (eT D.int) (eT D.int) (eT D.int)) a3]) (N_law_told_right_i_i_li_ptititiq a0 a1 a2 a3) D.bl :=
  n_runF ((t_if (evOrF (evNot (evTr (ev1 rfl (isi_of isTy_tuple_tup)) rfl)) (evB (ev2 rfl rfl (op_ne (e := D.int) (x := (3 : Int)) (x' := 3))))) (t_retF (rf_ok (e := D.bl) rfl))
  (t_nextS (t_forCp (ex := (eT D.int)) (e := D.bl) (s0 := ()) (rk := (fun v => v)) fin_F (it_T (e := (eT D.int)) (xs := [a3.1, a3.2.1, a3.2.2]) rfl) (fun x1 : Unit => [some (D.int a0), some (D.int a1), some ((eL D.int) a2), some ((eP3 (eT D.int) (eT D.int) (eT D.int)) a3), none, none]) (fun (x1 : Unit) (x2 : (List Int)) => [some (D.int a0), some (D.int a1), some ((eL D.int) a2), some ((eP3 (eT D.int) (eT D.int) (eT D.int)) a3), some ((eT D.int) x2), none]) rfl (fun _ _ => rfl) (fun x1 x2 =>
  (t_assoc (t_ifI fin_L (rOrF (evNot (evTr (ev1 rfl (isi_of isTy_tuple_tup)) rfl)) (q_B (b_iB (q_f2 (b_p (evOn (evA rfl rfl) op_lenT) (b_i (q_f2 (b_p rfl (b_p rfl op_mul))) fun x3 => (rf_ok (op_ne (e := D.int) (x := (x2.length : Int)) (x' := x3))))))))) (t_retp rfl rfl)
  (t_nextS (t_forCp (ex := D.int) (e := D.bl) (s0 := ()) (rk := (fun v => Ctl.ret v)) fin_L (it_T (e := D.int) (xs := x2) rfl) (fun x4 : Unit => [some (D.int a0), some (D.int a1), some ((eL D.int) a2), some ((eP3 (eT D.int) (eT D.int) (eT D.int)) a3), some ((eT D.int) x2), none]) (fun (x4 : Unit) (x5 : Int) => [some (D.int a0), some (D.int a1), some ((eL D.int) a2), some ((eP3 (eT D.int) (eT D.int) (eT D.int)) a3), some ((eT D.int) x2), some (D.int x5)]) rfl (fun _ _ => rfl) (fun x4 x5 =>
  (t_ifF (evNot (evTr (evOn (evA rfl rfl) (ev_chk (n_law_whole_i x5) rfl)) rfl)) (t_nextS (t_next rfl)))) (fun x6 =>
  (t_next rfl)) fun _ => rfl))))) (fun x8 =>
  (t_end (t_retF (q_on (a_p rfl (a_p rfl (a_p rfl (a_p rfl (a_0 (rf_chk (n_law_right_i_i_li_ptititiq a0 a1 a2 a3) rfl)))))))))) fun _ => rfl))))
def N_law_renumbered_lli_i_li (a0 : (List (List Int))) (a1 : Int) (a2 : (List Int)) : Res (List (List Int)) :=
  (((rngR 3).bind fun x4 => lcR x4 (fun x1 => Res.ok true) (fun x1 => ((ixR a0 0).bind fun x3 => lcR x3 (fun x2 => Res.ok true) (fun x2 => (Res.ok 0))))).bind fun x5 =>
  (((((ixR a0 0).bind fun x6 => (Res.ok (x6.length : Int))).bind fun x7 => (rngR x7)).bind fun x46 => (forR (σ := (List (List Int))) (fun x8 x9 => (((((divR x9 a1).bind fun x10 => (ixR a2 x10)).bind fun x11 => (mulR x11 a1)).bind fun x12 => ((modR x9 a1).bind fun x13 => (Res.ok (x12 + x13)))).bind fun x14 =>
  ((((((((ixR a0 0).bind fun x15 => (ixR x15 x9)).bind fun x16 => (divR x16 a1)).bind fun x17 => (ixR a2 x17)).bind fun x18 => (mulR x18 a1)).bind fun x22 => (((((ixR a0 0).bind fun x19 => (ixR x19 x9)).bind fun x20 => (Res.ok x20)).bind fun x21 => (modR x21 a1)).bind fun x23 => (Res.ok (x22 + x23)))).bind fun x24 => (Res.ok 0).bind fun x25 => (nx (Res.ok x9)).bind fun x26 => set2R x8 x25 x26 x24).bind fun x27 =>
  ((((((((ixR a0 1).bind fun x28 => (ixR x28 x9)).bind fun x29 => (divR x29 a1)).bind fun x30 => (ixR a2 x30)).bind fun x31 => (mulR x31 a1)).bind fun x35 => (((((ixR a0 1).bind fun x32 => (ixR x32 x9)).bind fun x33 => (Res.ok x33)).bind fun x34 => (modR x34 a1)).bind fun x36 => (Res.ok (x35 + x36)))).bind fun x37 => (Res.ok 1).bind fun x38 => (nx (Res.ok x14)).bind fun x39 => set2R x27 x38 x39 x37).bind fun x40 =>
  ((((ixR a0 2).bind fun x41 => (ixR x41 x9)).bind fun x42 => (Res.ok 2).bind fun x43 => (nx (Res.ok x14)).bind fun x44 => set2R x40 x43 x44 x42).bind fun x45 =>
  Res.ok x45))))) x46 x5)).bind fun x47 =>
  (Res.ok x47)))
theorem n_law_renumbered_lli_i_li (a0 : (List (List Int))) (a1 : Int) (a2 : (List Int)) : Rf (m_law_renumbered [(eL (eL D.int)) a0, D.int a1, (eL D.int) a2]) (N_law_renumbered_lli_i_li a0 a1 a2) (eL (eL D.int)) :=
  n_runF ((t_seq fin_F (fun x5 : (List (List Int)) => [some ((eL (eL D.int)) a0), some (D.int a1), some ((eL D.int) a2), some ((eL (eL D.int)) x5), none, none, none]) (s_set (e := (eL (eL D.int))) _ (rf_lc (q_R1 (a_p rfl (a_0 k_R1))) (fun x1 : Int => [some ((eL (eL D.int)) a0), some (D.int a1), some ((eL D.int) a2), none, none, none, some (D.int x1)]) (fun _ => rfl) (fun x1 => (rf_ok (v := true) rfl)) (fun x1 => (rf_lc (q_L (b_iL (q := (eL D.int)) (e := D.int) (q_f2 (b_p rfl (b_p rfl op_ixL))) fun _ => rfl)) (fun x2 : Int => [some ((eL (eL D.int)) a0), some (D.int a1), some ((eL D.int) a2), none, some (D.int x2), none, some (D.int x1)]) (fun _ => rfl) (fun x2 => (rf_ok (v := true) rfl)) (fun x2 => (rf_ok (e := D.int) rfl))))) fun _ => rfl) fun x5 =>
  (t_seq fin_F (fun x47 : (List (List Int)) => [some ((eL (eL D.int)) a0), some (D.int a1), some ((eL D.int) a2), some ((eL (eL D.int)) x47), none, none, none]) (s_for (ex := D.int) (s0 := x5) (q_R1 (a_i (q_on (a_i (q_f2 (b_p rfl (b_p rfl op_ixL))) fun x6 => (a_0 (rf_ok op_lenL)))) fun x7 => (a_0 k_R1))) (fun x8 : (List (List Int)) => [some ((eL (eL D.int)) a0), some (D.int a1), some ((eL D.int) a2), some ((eL (eL D.int)) x8), none, none, none]) (fun (x8 : (List (List Int))) (x9 : Int) => [some ((eL (eL D.int)) a0), some (D.int a1), some ((eL D.int) a2), some ((eL (eL D.int)) x8), some (D.int x9), none, none]) rfl (fun _ _ => rfl) fun x8 x9 =>
  (t_assoc (t_seq fin_L (fun x14 : Int => [some ((eL (eL D.int)) a0), some (D.int a1), some ((eL D.int) a2), some ((eL (eL D.int)) x8), some (D.int x9), some (D.int x14), none]) (s_set (e := D.int) _ (q_f2 (b_i (q_f2 (b_i (q_f2 (b_p rfl (b_i (q_f2 (b_p rfl (b_p rfl op_div))) fun x10 => op_ixL))) fun x11 => (b_p rfl op_mul))) fun x12 => (b_i (q_f2 (b_p rfl (b_p rfl op_mod))) fun x13 => (rf_ok rfl)))) fun _ => rfl) fun x14 =>
  (t_assoc (t_seq fin_L (fun x27 : (List (List Int)) => [some ((eL (eL D.int)) a0), some (D.int a1), some ((eL D.int) a2), some ((eL (eL D.int)) x27), some (D.int x9), some (D.int x14), none]) (s_set2 (e := D.int) (xs := x8) (fun ys : (List (List Int)) => [some ((eL (eL D.int)) a0), some (D.int a1), some ((eL D.int) a2), some ((eL (eL D.int)) ys), some (D.int x9), some (D.int x14), none]) rfl (q_f2 (b_i (q_f2 (b_i (q_f2 (b_p rfl (b_i (q_f2 (b_i (q_f2 (b_i (q_f2 (b_p rfl (b_p rfl op_ixL))) fun x15 => (b_p rfl op_ixL))) fun x16 => (b_p rfl op_div))) fun x17 => op_ixL))) fun x18 => (b_p rfl op_mul))) fun x22 => (b_i (q_f2 (b_i (q_on (a_i (q_f2 (b_i (q_f2 (b_p rfl (b_p rfl op_ixL))) fun x19 => (b_p rfl op_ixL))) fun x20 => (a_0 (rf_ok rfl)))) fun x21 => (b_p rfl op_mod))) fun x23 => (rf_ok rfl)))) (rf_ok (e := D.int) rfl) (rf_ok (e := D.int) rfl) fun _ => rfl) fun x27 =>
  (t_assoc (t_seq fin_L (fun x40 : (List (List Int)) => [some ((eL (eL D.int)) a0), some (D.int a1), some ((eL D.int) a2), some ((eL (eL D.int)) x40), some (D.int x9), some (D.int x14), none]) (s_set2 (e := D.int) (xs := x27) (fun ys : (List (List Int)) => [some ((eL (eL D.int)) a0), some (D.int a1), some ((eL D.int) a2), some ((eL (eL D.int)) ys), some (D.int x9), some (D.int x14), none]) rfl (q_f2 (b_i (q_f2 (b_i (q_f2 (b_p rfl (b_i (q_f2 (b_i (q_f2 (b_i (q_f2 (b_p rfl (b_p rfl op_ixL))) fun x28 => (b_p rfl op_ixL))) fun x29 => (b_p rfl op_div))) fun x30 => op_ixL))) fun x31 => (b_p rfl op_mul))) fun x35 => (b_i (q_f2 (b_i (q_on (a_i (q_f2 (b_i (q_f2 (b_p rfl (b_p rfl op_ixL))) fun x32 => (b_p rfl op_ixL))) fun x33 => (a_0 (rf_ok rfl)))) fun x34 => (b_p rfl op_mod))) fun x36 => (rf_ok rfl)))) (rf_ok (e := D.int) rfl) (rf_ok (e := D.int) rfl) fun _ => rfl) fun x40 =>
  (t_seq fin_L (fun x45 : (List (List Int)) => [some ((eL (eL D.int)) a0), some (D.int a1), some ((eL D.int) a2), some ((eL (eL D.int)) x45), some (D.int x9), some (D.int x14), none]) (s_set2 (e := D.int) (xs := x40) (fun ys : (List (List Int)) => [some ((eL (eL D.int)) a0), some (D.int a1), some ((eL D.int) a2), some ((eL (eL D.int)) ys), some (D.int x9), some (D.int x14), none]) rfl (q_f2 (b_i (q_f2 (b_p rfl (b_p rfl op_ixL))) fun x41 => (b_p rfl op_ixL))) (rf_ok (e := D.int) rfl) (rf_ok (e := D.int) rfl) fun _ => rfl) fun x45 =>
  (t_next rfl))))))))) fun x47 =>
  (t_end (t_retF (rf_ok (e := (eL (eL D.int))) rfl))))))
def N_three_legs_i_i_ti (a0 : Int) (a1 : Int) (a2 : (List Int)) : Res ((List Int) × (List Int) × (List Int)) :=
  ((N_frozen_ti a2).bind fun x1 =>
  ((N_chosen_rows_i_i_ti a0 a1 x1).bind fun x2 =>
  ((lcR x1 (fun x3 => Res.ok true) (fun x3 => (Res.ok 0))).bind fun x4 =>
  ((lcR x1 (fun x5 => Res.ok true) (fun x5 => (Res.ok 0))).bind fun x6 =>
  ((lcR x1 (fun x7 => Res.ok true) (fun x7 => (Res.ok 0))).bind fun x8 =>
  ((forR (σ := ((List Int) × (List Int) × (List Int))) (fun x9 x10 => (((((ixR x2 x10.1).bind unO).bind fun x11 => (mulR x11 a1)).bind fun x12 => ((modR x10.1 a1).bind fun x13 => (Res.ok (x12 + x13)))).bind fun x14 =>
  (((((ixR x2 x10.1).bind unO).bind fun x15 => (mulR x15 a1)).bind fun x16 => ((modR x10.2 a1).bind fun x17 => (Res.ok (x16 + x17)))).bind fun x18 =>
  ((setR x9.1 x10.1 x14).bind fun x19 =>
  ((setR x9.2.1 x14 x18).bind fun x20 =>
  ((setR x9.2.2 x18 x10.2).bind fun x21 =>
  Res.ok (x19, x20, x21))))))) (enumI 0 x1) (x4, x6, x8)).bind fun x22 =>
  (Res.ok (x22.1, x22.2.1, x22.2.2))))))))
theorem n_three_legs_i_i_ti (a0 : Int) (a1 : Int) (a2 : (List Int)) : Rf (m_three_legs [D.int a0, D.int a1, (eT D.int) a2]) (N_three_legs_i_i_ti a0 a1 a2) (eP3 (eT D.int) (eT D.int) (eT D.int)) :=
  n_runF ((t_seq fin_F (fun x1 : (List Int) => [some (D.int a0), some (D.int a1), some ((eT D.int) x1), none, none, none, none, none, none, none, none]) (s_set (e := (eT D.int)) _ (q_on (a_p rfl (a_0 (rf_chk (n_frozen_ti a2) rfl)))) fun _ => rfl) fun x1 =>
  (t_seq fin_F (fun x2 : (List (Option Int)) => [some (D.int a0), some (D.int a1), some ((eT D.int) x1), some ((eL (eO D.int)) x2), none, none, none, none, none, none, none]) (s_set (e := (eL (eO D.int))) _ (q_on (a_p rfl (a_p rfl (a_p rfl (a_0 (rf_chk (n_chosen_rows_i_i_ti a0 a1 x1) rfl)))))) fun _ => rfl) fun x2 =>
  (t_seq fin_F (fun x4 : (List Int) => [some (D.int a0), some (D.int a1), some ((eT D.int) x1), some ((eL (eO D.int)) x2), some ((eL D.int) x4), none, none, none, none, none, none]) (s_set (e := (eL D.int)) _ (rf_lcp (it_T (e := D.int) (xs := x1) rfl) (fun x3 : Int => [some (D.int a0), some (D.int a1), some ((eT D.int) x1), some ((eL (eO D.int)) x2), none, none, none, some (D.int x3), none, none, none]) (fun _ => rfl) (fun x3 => (rf_ok (v := true) rfl)) (fun x3 => (rf_ok (e := D.int) rfl))) fun _ => rfl) fun x4 =>
  (t_seq fin_F (fun x6 : (List Int) => [some (D.int a0), some (D.int a1), some ((eT D.int) x1), some ((eL (eO D.int)) x2), some ((eL D.int) x4), some ((eL D.int) x6), none, none, none, none, none]) (s_set (e := (eL D.int)) _ (rf_lcp (it_T (e := D.int) (xs := x1) rfl) (fun x5 : Int => [some (D.int a0), some (D.int a1), some ((eT D.int) x1), some ((eL (eO D.int)) x2), some ((eL D.int) x4), none, none, some (D.int x5), none, none, none]) (fun _ => rfl) (fun x5 => (rf_ok (v := true) rfl)) (fun x5 => (rf_ok (e := D.int) rfl))) fun _ => rfl) fun x6 =>
  (t_seq fin_F (fun x8 : (List Int) => [some (D.int a0), some (D.int a1), some ((eT D.int) x1), some ((eL (eO D.int)) x2), some ((eL D.int) x4), some ((eL D.int) x6), some ((eL D.int) x8), none, none, none, none]) (s_set (e := (eL D.int)) _ (rf_lcp (it_T (e := D.int) (xs := x1) rfl) (fun x7 : Int => [some (D.int a0), some (D.int a1), some ((eT D.int) x1), some ((eL (eO D.int)) x2), some ((eL D.int) x4), some ((eL D.int) x6), none, some (D.int x7), none, none, none]) (fun _ => rfl) (fun x7 => (rf_ok (v := true) rfl)) (fun x7 => (rf_ok (e := D.int) rfl))) fun _ => rfl) fun x8 =>
  (t_seq fin_F (fun x22 : ((List Int) × (List Int) × (List Int)) => [some (D.int a0), some (D.int a1), some ((eT D.int) x1), some ((eL (eO D.int)) x2), some ((eL D.int) x22.1), some ((eL D.int) x22.2.1), some ((eL D.int) x22.2.2), none, none, none, none]) (s_forp (ex := (eP2 D.int D.int)) (s0 := (x4, x6, x8)) (it_enT (e := D.int) (xs := x1) rfl) (fun x9 : ((List Int) × (List Int) × (List Int)) => [some (D.int a0), some (D.int a1), some ((eT D.int) x1), some ((eL (eO D.int)) x2), some ((eL D.int) x9.1), some ((eL D.int) x9.2.1), some ((eL D.int) x9.2.2), none, none, none, none]) (fun (x9 : ((List Int) × (List Int) × (List Int))) (x10 : (Int × Int)) => [some (D.int a0), some (D.int a1), some ((eT D.int) x1), some ((eL (eO D.int)) x2), some ((eL D.int) x9.1), some ((eL D.int) x9.2.1), some ((eL D.int) x9.2.2), some (D.int x10.1), some (D.int x10.2), none, none]) rfl (fun _ _ => rfl) fun x9 x10 =>
  (t_assoc (t_seq fin_L (fun x14 : Int => [some (D.int a0), some (D.int a1), some ((eT D.int) x1), some ((eL (eO D.int)) x2), some ((eL D.int) x9.1), some ((eL D.int) x9.2.1), some ((eL D.int) x9.2.2), some (D.int x10.1), some (D.int x10.2), some (D.int x14), none]) (s_set (e := D.int) _ (q_f2 (b_i (q_f2 (b_i (rf_unOI (q_f2 (b_p rfl (b_p rfl op_ixL)))) fun x11 => (b_p rfl op_mul))) fun x12 => (b_i (q_f2 (b_p rfl (b_p rfl op_mod))) fun x13 => (rf_ok rfl)))) fun _ => rfl) fun x14 =>
  (t_assoc (t_seq fin_L (fun x18 : Int => [some (D.int a0), some (D.int a1), some ((eT D.int) x1), some ((eL (eO D.int)) x2), some ((eL D.int) x9.1), some ((eL D.int) x9.2.1), some ((eL D.int) x9.2.2), some (D.int x10.1), some (D.int x10.2), some (D.int x14), some (D.int x18)]) (s_set (e := D.int) _ (q_f2 (b_i (q_f2 (b_i (rf_unOI (q_f2 (b_p rfl (b_p rfl op_ixL)))) fun x15 => (b_p rfl op_mul))) fun x16 => (b_i (q_f2 (b_p rfl (b_p rfl op_mod))) fun x17 => (rf_ok rfl)))) fun _ => rfl) fun x18 =>
  (t_assoc (t_seq fin_L (fun x19 : (List Int) => [some (D.int a0), some (D.int a1), some ((eT D.int) x1), some ((eL (eO D.int)) x2), some ((eL D.int) x19), some ((eL D.int) x9.2.1), some ((eL D.int) x9.2.2), some (D.int x10.1), some (D.int x10.2), some (D.int x14), some (D.int x18)]) (s_setIx (e := D.int) (xs := x9.1) (d := x14) (fun ys : (List Int) => [some (D.int a0), some (D.int a1), some ((eT D.int) x1), some ((eL (eO D.int)) x2), some ((eL D.int) ys), some ((eL D.int) x9.2.1), some ((eL D.int) x9.2.2), some (D.int x10.1), some (D.int x10.2), some (D.int x14), some (D.int x18)]) rfl rfl rfl fun _ => rfl) fun x19 =>
  (t_assoc (t_seq fin_L (fun x20 : (List Int) => [some (D.int a0), some (D.int a1), some ((eT D.int) x1), some ((eL (eO D.int)) x2), some ((eL D.int) x19), some ((eL D.int) x20), some ((eL D.int) x9.2.2), some (D.int x10.1), some (D.int x10.2), some (D.int x14), some (D.int x18)]) (s_setIx (e := D.int) (xs := x9.2.1) (d := x18) (fun ys : (List Int) => [some (D.int a0), some (D.int a1), some ((eT D.int) x1), some ((eL (eO D.int)) x2), some ((eL D.int) x19), some ((eL D.int) ys), some ((eL D.int) x9.2.2), some (D.int x10.1), some (D.int x10.2), some (D.int x14), some (D.int x18)]) rfl rfl rfl fun _ => rfl) fun x20 =>
  (t_seq fin_L (fun x21 : (List Int) => [some (D.int a0), some (D.int a1), some ((eT D.int) x1), some ((eL (eO D.int)) x2), some ((eL D.int) x19), some ((eL D.int) x20), some ((eL D.int) x21), some (D.int x10.1), some (D.int x10.2), some (D.int x14), some (D.int x18)]) (s_setIx (e := D.int) (xs := x9.2.2) (d := x10.2) (fun ys : (List Int) => [some (D.int a0), some (D.int a1), some ((eT D.int) x1), some ((eL (eO D.int)) x2), some ((eL D.int) x19), some ((eL D.int) x20), some ((eL D.int) ys), some (D.int x10.1), some (D.int x10.2), some (D.int x14), some (D.int x18)]) rfl rfl rfl fun _ => rfl) fun x21 =>
  (t_next rfl))))))))))) fun x22 =>
  (t_end (t_retF (rf_ok (e := (eP3 (eT D.int) (eT D.int) (eT D.int))) rfl))))))))))
def N_law_fi (a0 : (List Int)) : Res Bool :=
  (((N_law_cell_fi_i a0 0).bind fun x1 => (N_law_digits_i_li x1 [22, 24, 24, 3])).bind fun x2 =>
  (((ixR x2 1).bind fun x3 => (Res.ok (1 + x3))).bind fun x4 =>
  (((((ixR x2 2).bind fun x5 => (Res.ok x5)).bind fun x6 => ((divR 24 x4).bind fun x7 => (modR x6 x7))).bind fun x8 => (Res.ok (1 + x8))).bind fun x9 =>
  ((((ixR x2 0).bind fun x22 => (Res.ok (decide (x22 < 18)))).bind fun x27 => if x27 = true then (((ixR x2 0).bind fun x23 => (ixR [2, 2, 3, 3, 2, 4, 3, 4, 4, 6, 4, 3, 8, 5, 2, 12, 1, 1] x23)).bind fun x24 =>
  (((ixR x2 0).bind fun x25 => (ixR [2, 3, 2, 3, 4, 2, 4, 3, 4, 4, 6, 8, 3, 4, 12, 2, 1, 5] x25)).bind fun x26 =>
  Res.ok (x24, x26))) else
  Res.ok (x4, x9)).bind fun x28 =>
  ((mulR x28.1 x28.2).bind fun x29 =>
  (((rngR 3).bind fun x33 => lcR x33 (fun x30 => Res.ok true) (fun x30 => ((N_law_cell_fi_i a0 (3 + x30)).bind fun x31 => ((repR [24] 24).bind fun x32 => (N_law_digits_i_li x31 x32))))).bind fun x34 =>
  (((ixR x34 0).bind fun x35 => ((ixR x34 1).bind fun x36 => ((ixR x34 2).bind fun x37 => (N_law_drawn_legs_i_i_li_li_li x28.1 x28.2 x35 x36 x37)))).bind fun x38 =>
  ((N_law_composed_lli x38).bind fun x39 =>
  (((N_law_cell_fi_i a0 1).bind fun x45 => ((((((powR 10 40).bind fun x40 => (Res.ok (x40 - 1))).bind fun x41 => (Res.ok [24, 24, 24, 24, 4, x41, 3])).bind fun x42 => (repR x42 2)).bind fun x43 => ((repR [24] 24).bind fun x44 => (catR x43 x44))).bind fun x46 => (N_law_digits_i_li x45 x46))).bind fun x47 =>
  ((((nx (N_law_judged_i_i_li_lli x28.1 x28.2 x39 x38)).bind fun x48 => Res.ok (!x48)).bind fun x50 => (if x50 = true then Res.ok true else ((nx (N_law_papers_judged_i_i_li_lli_li x28.1 x28.2 x39 x38 x47)).bind fun x49 => Res.ok (!x49)))).bind fun x85 => if x85 = true then (Res.ok false) else
  ((((ixR x2 3).bind fun x63 => (Res.ok (decide (0 < x63)))).bind fun x68 => if x68 = true then ((((N_law_cell_fi_i a0 2).bind fun x64 => ((repR [24] 24).bind fun x65 => (N_law_digits_i_li x64 x65))).bind fun x66 => (N_law_day27_i_li x29 x66)).bind fun x67 =>
  Res.ok x67) else
  Res.ok x39).bind fun x69 =>
  ((N_three_legs_i_i_li x28.1 x28.2 x69).bind fun x70 =>
  ((((N_law_told_right_i_i_li_ptititiq x28.1 x28.2 x69 x70).bind fun x71 => Res.ok (!x71)).bind fun x72 => (if x72 = true then Res.ok true else (Res.ok (!decide (x69 = x69))))).bind fun x84 => if x84 = true then (Res.ok false) else
  ((lcR [x70.1, x70.2.1, x70.2.2] (fun x73 => Res.ok true) (fun x73 => (Res.ok x73))).bind fun x74 =>
  (((N_law_day27_i_li x28.1 (cutN x47 (some 14) none)).bind fun x75 => (N_law_renumbered_lli_i_li x74 x28.2 x75)).bind fun x76 =>
  ((((N_law_right_i_i_li_lli x28.1 x28.2 x69 x76).bind fun x77 => Res.ok (!x77)).bind fun x79 => (if x79 = true then Res.ok true else ((N_law_judged_i_i_li_lli x28.1 x28.2 x69 x76).bind fun x78 => Res.ok (!x78)))).bind fun x83 => if x83 = true then (Res.ok false) else
  (((N_law_papers_judged_i_i_li_lli_li x28.1 x28.2 x69 x74 (cutN x47 (some 7) (some 14))).bind fun x80 => Res.ok (!x80)).bind fun x82 => if x82 = true then (Res.ok false) else
  ((N_three_legs_i_i_ti x28.1 x28.2 x69).bind fun x81 => (Res.ok (decide (x81 = x70)))))))))))))))))))))
theorem n_law_fi (a0 : (List Int)) : Rf (m_law [(eF D.int) a0]) (N_law_fi a0) D.bl :=
  n_runF ((t_seq fin_F (fun x2 : (List Int) => [some ((eF D.int) a0), some ((eL D.int) x2), none, none, none, none, none, none, none, none, none, none, none, none, none]) (s_set (e := (eL D.int)) _ (q_on (a_i (q_on (a_p rfl (a_p rfl (a_0 (rf_chk (n_law_cell_fi_i a0 0) rfl))))) fun x1 => (a_p rfl (a_0 (rf_chk (n_law_digits_i_li x1 [22, 24, 24, 3]) rfl))))) fun _ => rfl) fun x2 =>
  (t_seq fin_F (fun x4 : Int => [some ((eF D.int) a0), some ((eL D.int) x2), some (D.int x4), none, none, none, none, none, none, none, none, none, none, none, none]) (s_set (e := D.int) _ (q_f2 (b_p rfl (b_i (q_f2 (b_p rfl (b_p rfl op_ixL))) fun x3 => (rf_ok rfl)))) fun _ => rfl) fun x4 =>
  (t_seq fin_F (fun x9 : Int => [some ((eF D.int) a0), some ((eL D.int) x2), some (D.int x4), some (D.int x9), none, none, none, none, none, none, none, none, none, none, none]) (s_set (e := D.int) _ (q_f2 (b_p rfl (b_i (q_f2 (b_i (q_on (a_i (q_f2 (b_p rfl (b_p rfl op_ixL))) fun x5 => (a_0 (rf_ok rfl)))) fun x6 => (b_i (q_f2 (b_p rfl (b_p rfl op_div))) fun x7 => op_mod))) fun x8 => (rf_ok rfl)))) fun _ => rfl) fun x9 =>
  (t_seq fin_F (fun x28 : (Int × Int) => [some ((eF D.int) a0), some ((eL D.int) x2), some (D.int x28.1), some (D.int x28.2), none, none, none, none, none, none, none, none, none, none, none]) (s_if (o' := (fun s : (Int × Int) => Fl.nx [some ((eF D.int) a0), some ((eL D.int) x2), some (D.int s.1), some (D.int s.2), none, none, none, none, none, none, none, none, none, none, none])) (t_ifI fin_S (q_B (b_iB (q_f2 (b_i (q_f2 (b_p rfl (b_p rfl op_ixL))) fun x22 => (b_p rfl (rf_ok rfl)))))) (t_assoc (t_seq fin_S (fun x24 : Int => [some ((eF D.int) a0), some ((eL D.int) x2), some (D.int x24), some (D.int x9), none, none, none, none, none, none, none, none, none, none, none]) (s_set (e := D.int) _ (q_f2 (b_p rfl (b_i (q_f2 (b_p rfl (b_p rfl op_ixL))) fun x23 => op_ixL))) fun _ => rfl) fun x24 =>
  (t_seq fin_S (fun x26 : Int => [some ((eF D.int) a0), some ((eL D.int) x2), some (D.int x24), some (D.int x26), none, none, none, none, none, none, none, none, none, none, none]) (s_set (e := D.int) _ (q_f2 (b_p rfl (b_i (q_f2 (b_p rfl (b_p rfl op_ixL))) fun x25 => op_ixL))) fun _ => rfl) fun x26 =>
  (t_next rfl))))
  (t_nextS (t_next rfl)))) fun x28 =>
  (t_seq fin_F (fun x29 : Int => [some ((eF D.int) a0), some ((eL D.int) x2), some (D.int x28.1), some (D.int x28.2), some (D.int x29), none, none, none, none, none, none, none, none, none, none]) (s_set (e := D.int) _ (q_f2 (b_p rfl (b_p rfl op_mul))) fun _ => rfl) fun x29 =>
  (t_seq fin_F (fun x34 : (List (List Int)) => [some ((eF D.int) a0), some ((eL D.int) x2), some (D.int x28.1), some (D.int x28.2), some (D.int x29), some ((eL (eL D.int)) x34), none, none, none, none, none, none, none, none, none]) (s_set (e := (eL (eL D.int))) _ (rf_lc (q_R1 (a_p rfl (a_0 k_R1))) (fun x30 : Int => [some ((eF D.int) a0), some ((eL D.int) x2), some (D.int x28.1), some (D.int x28.2), some (D.int x29), none, none, none, none, none, none, none, none, some (D.int x30), none]) (fun _ => rfl) (fun x30 => (rf_ok (v := true) rfl)) (fun x30 => (q_on (a_i (q_on (a_p rfl (a_p rfl (a_0 (rf_chk (n_law_cell_fi_i a0 (3 + x30)) rfl))))) fun x31 => (a_i (q_f2 (b_p rfl (b_p rfl (op_rep (e := D.int))))) fun x32 => (a_0 (rf_chk (n_law_digits_i_li x31 x32) rfl))))))) fun _ => rfl) fun x34 =>
  (t_seq fin_F (fun x38 : (List (List Int)) => [some ((eF D.int) a0), some ((eL D.int) x2), some (D.int x28.1), some (D.int x28.2), some (D.int x29), some ((eL (eL D.int)) x34), some ((eL (eL D.int)) x38), none, none, none, none, none, none, none, none]) (s_set (e := (eL (eL D.int))) _ (q_on (a_p rfl (a_p rfl (a_i (q_f2 (b_p rfl (b_p rfl op_ixL))) fun x35 => (a_i (q_f2 (b_p rfl (b_p rfl op_ixL))) fun x36 => (a_i (q_f2 (b_p rfl (b_p rfl op_ixL))) fun x37 => (a_0 (rf_chk (n_law_drawn_legs_i_i_li_li_li x28.1 x28.2 x35 x36 x37) rfl)))))))) fun _ => rfl) fun x38 =>
  (t_seq fin_F (fun x39 : (List Int) => [some ((eF D.int) a0), some ((eL D.int) x2), some (D.int x28.1), some (D.int x28.2), some (D.int x29), some ((eL (eL D.int)) x34), some ((eL (eL D.int)) x38), some ((eL D.int) x39), none, none, none, none, none, none, none]) (s_set (e := (eL D.int)) _ (q_on (a_p rfl (a_0 (rf_chk (n_law_composed_lli x38) rfl)))) fun _ => rfl) fun x39 =>
  (t_seq fin_F (fun x47 : (List Int) => [some ((eF D.int) a0), some ((eL D.int) x2), some (D.int x28.1), some (D.int x28.2), some (D.int x29), some ((eL (eL D.int)) x34), some ((eL (eL D.int)) x38), some ((eL D.int) x39), some ((eL D.int) x47), none, none, none, none, none, none]) (s_set (e := (eL D.int)) _ (q_on (a_i (q_on (a_p rfl (a_p rfl (a_0 (rf_chk (n_law_cell_fi_i a0 1) rfl))))) fun x45 => (a_i (q_f2 (b_i (q_f2 (b_i (q_on (a_p rfl (a_p rfl (a_p rfl (a_p rfl (a_p rfl (a_i (q_f2 (b_i (q_f2 (b_p rfl (b_p rfl op_pow))) fun x40 => (b_p rfl (rf_ok rfl)))) fun x41 => (a_p rfl (a_0 (rf_ok rfl)))))))))) fun x42 => (b_p rfl (op_rep (e := D.int))))) fun x43 => (b_i (q_f2 (b_p rfl (b_p rfl (op_rep (e := D.int))))) fun x44 => (op_catLL (e := D.int))))) fun x46 => (a_0 (rf_chk (n_law_digits_i_li x45 x46) rfl))))) fun _ => rfl) fun x47 =>
  (t_ifI fin_F (rOrI (q_Not (b_i (rNx (q_Tr (b_iT (q_on (a_p rfl (a_p rfl (a_p rfl (a_p rfl (a_0 (rf_chk (n_law_judged_i_i_li_lli x28.1 x28.2 x39 x38) rfl)))))))))) fun _ => rf_ok rfl)) (q_Not (b_i (rNx (q_Tr (b_iT (q_on (a_p rfl (a_p rfl (a_p rfl (a_p rfl (a_p rfl (a_0 (rf_chk (n_law_papers_judged_i_i_li_lli_li x28.1 x28.2 x39 x38 x47) rfl))))))))))) fun _ => rf_ok rfl))) (t_retF (rf_ok (e := D.bl) rfl))
  (t_nextS (t_seq fin_F (fun x69 : (List Int) => [some ((eF D.int) a0), some ((eL D.int) x2), some (D.int x28.1), some (D.int x28.2), some (D.int x29), some ((eL (eL D.int)) x34), some ((eL (eL D.int)) x38), some ((eL D.int) x69), some ((eL D.int) x47), none, none, none, none, none, none]) (s_if (o' := (fun s : (List Int) => Fl.nx [some ((eF D.int) a0), some ((eL D.int) x2), some (D.int x28.1), some (D.int x28.2), some (D.int x29), some ((eL (eL D.int)) x34), some ((eL (eL D.int)) x38), some ((eL D.int) s), some ((eL D.int) x47), none, none, none, none, none, none])) (t_ifI fin_S (q_B (b_iB (q_f2 (b_i (q_f2 (b_p rfl (b_p rfl op_ixL))) fun x63 => (b_p rfl (rf_ok rfl)))))) (t_seq fin_S (fun x67 : (List Int) => [some ((eF D.int) a0), some ((eL D.int) x2), some (D.int x28.1), some (D.int x28.2), some (D.int x29), some ((eL (eL D.int)) x34), some ((eL (eL D.int)) x38), some ((eL D.int) x67), some ((eL D.int) x47), none, none, none, none, none, none]) (s_set (e := (eL D.int)) _ (q_on (a_p rfl (a_i (q_on (a_i (q_on (a_p rfl (a_p rfl (a_0 (rf_chk (n_law_cell_fi_i a0 2) rfl))))) fun x64 => (a_i (q_f2 (b_p rfl (b_p rfl (op_rep (e := D.int))))) fun x65 => (a_0 (rf_chk (n_law_digits_i_li x64 x65) rfl))))) fun x66 => (a_0 (rf_chk (n_law_day27_i_li x29 x66) rfl))))) fun _ => rfl) fun x67 =>
  (t_next rfl))
  (t_nextS (t_next rfl)))) fun x69 =>
  (t_seqp [some ((eF D.int) a0), some ((eL D.int) x2), some (D.int x28.1), some (D.int x28.2), some (D.int x29), some ((eL (eL D.int)) x34), some ((eL (eL D.int)) x38), some ((eL D.int) x69), some ((eL D.int) x47), some ((eL D.int) x69), none, none, none, none, none] (set_p rfl rfl) (t_seq fin_F (fun x70 : ((List Int) × (List Int) × (List Int)) => [some ((eF D.int) a0), some ((eL D.int) x2), some (D.int x28.1), some (D.int x28.2), some (D.int x29), some ((eL (eL D.int)) x34), some ((eL (eL D.int)) x38), some ((eL D.int) x69), some ((eL D.int) x47), some ((eL D.int) x69), some ((eP3 (eT D.int) (eT D.int) (eT D.int)) x70), none, none, none, none]) (s_set (e := (eP3 (eT D.int) (eT D.int) (eT D.int))) _ (q_on (a_p rfl (a_p rfl (a_p rfl (a_0 (rf_chk (n_three_legs_i_i_li x28.1 x28.2 x69) rfl)))))) fun _ => rfl) fun x70 =>
  (t_ifI fin_F (rOrI (q_Not (b_i (q_Tr (b_iT (q_on (a_p rfl (a_p rfl (a_p rfl (a_p rfl (a_0 (rf_chk (n_law_told_right_i_i_li_ptititiq x28.1 x28.2 x69 x70) rfl))))))))) fun _ => rf_ok rfl)) (rf_ok (e := fun b => b) (evB (ev2 rfl rfl (op_ne (e := (eL D.int)) (x := x69) (x' := x69)))))) (t_retF (rf_ok (e := D.bl) rfl))
  (t_nextS (t_seq fin_F (fun x74 : (List (List Int)) => [some ((eF D.int) a0), some ((eL D.int) x2), some (D.int x28.1), some (D.int x28.2), some (D.int x29), some ((eL (eL D.int)) x34), some ((eL (eL D.int)) x38), some ((eL D.int) x69), some ((eL D.int) x47), some ((eL D.int) x69), some ((eP3 (eT D.int) (eT D.int) (eT D.int)) x70), some ((eL (eL D.int)) x74), none, none, none]) (s_set (e := (eL (eL D.int))) _ (rf_lcp (it_T (e := (eT D.int)) (xs := [x70.1, x70.2.1, x70.2.2]) rfl) (fun x73 : (List Int) => [some ((eF D.int) a0), some ((eL D.int) x2), some (D.int x28.1), some (D.int x28.2), some (D.int x29), some ((eL (eL D.int)) x34), some ((eL (eL D.int)) x38), some ((eL D.int) x69), some ((eL D.int) x47), some ((eL D.int) x69), some ((eP3 (eT D.int) (eT D.int) (eT D.int)) x70), none, none, none, some ((eT D.int) x73)]) (fun _ => rfl) (fun x73 => (rf_ok (v := true) rfl)) (fun x73 => (rf_ok (e := (eL D.int)) rfl))) fun _ => rfl) fun x74 =>
  (t_seq fin_F (fun x76 : (List (List Int)) => [some ((eF D.int) a0), some ((eL D.int) x2), some (D.int x28.1), some (D.int x28.2), some (D.int x29), some ((eL (eL D.int)) x34), some ((eL (eL D.int)) x38), some ((eL D.int) x69), some ((eL D.int) x47), some ((eL D.int) x69), some ((eP3 (eT D.int) (eT D.int) (eT D.int)) x70), some ((eL (eL D.int)) x74), some ((eL (eL D.int)) x76), none, none]) (s_set (e := (eL (eL D.int))) _ (q_on (a_p rfl (a_p rfl (a_i (q_on (a_p rfl (a_p (evCut rfl rfl rfl op_cutLL) (a_0 (rf_chk (n_law_day27_i_li x28.1 (cutN x47 (some 14) none)) rfl))))) fun x75 => (a_0 (rf_chk (n_law_renumbered_lli_i_li x74 x28.2 x75) rfl)))))) fun _ => rfl) fun x76 =>
  (t_ifI fin_F (rOrI (q_Not (b_i (q_Tr (b_iT (q_on (a_p rfl (a_p rfl (a_p rfl (a_p rfl (a_0 (rf_chk (n_law_right_i_i_li_lli x28.1 x28.2 x69 x76) rfl))))))))) fun _ => rf_ok rfl)) (q_Not (b_i (q_Tr (b_iT (q_on (a_p rfl (a_p rfl (a_p rfl (a_p rfl (a_0 (rf_chk (n_law_judged_i_i_li_lli x28.1 x28.2 x69 x76) rfl))))))))) fun _ => rf_ok rfl))) (t_retF (rf_ok (e := D.bl) rfl))
  (t_nextS (t_ifI fin_F (q_Not (b_i (q_Tr (b_iT (q_on (a_p rfl (a_p rfl (a_p rfl (a_p rfl (a_p (evCut rfl rfl rfl op_cutLL) (a_0 (rf_chk (n_law_papers_judged_i_i_li_lli_li x28.1 x28.2 x69 x74 (cutN x47 (some 7) (some 14))) rfl)))))))))) fun _ => rf_ok rfl)) (t_retF (rf_ok (e := D.bl) rfl))
  (t_nextS (t_end (t_retF (q_f2 (b_i (q_on (a_p rfl (a_p rfl (a_p rfl (a_0 (rf_chk (n_three_legs_i_i_ti x28.1 x28.2 x69) rfl)))))) fun x81 => (b_p rfl (rf_ok (op_eq (e := (eP3 (eT D.int) (eT D.int) (eT D.int))) (x := x81) (x' := x70)))))))))))))))))))))))))))))))
end Kx
namespace Kx
open PySem PySem.Spec L2 Da
def top (i : Nat) : Stmt := PySem.Challenge.pw_nobadday_k27_three_legs_whole.main.body.getD i (.Pass ⟨0, 0, 0, 0⟩)
abbrev s_law_digits : Stmt := top 31
abbrev s_law_day27 : Stmt := top 32
abbrev s_law_drawn_legs : Stmt := top 33
abbrev s_law_composed : Stmt := top 34
abbrev s_frozen : Stmt := top 5
abbrev s_check_square : Stmt := top 20
abbrev s_search : Stmt := top 13
abbrev s_changed_owners : Stmt := top 14
abbrev s_greatest_owners : Stmt := top 15
abbrev s_reached_goals : Stmt := top 16
abbrev s_Matching_init : Stmt := inCls (top 12) 0
abbrev s_greatest_matching : Stmt := top 17
abbrev s_perfect_partners : Stmt := top 18
abbrev s_parted : Stmt := top 21
abbrev s_column_square : Stmt := top 23
abbrev s_chosen_rows : Stmt := top 24
abbrev s_three_legs : Stmt := top 25
abbrev s_law_renumbered : Stmt := top 37
abbrev s_law_cell : Stmt := top 30
abbrev s_law_rerouted : Stmt := top 38
abbrev s_law_swapped : Stmt := top 39
abbrev s_law_replaced : Stmt := top 40
abbrev s_law_papers : Stmt := top 41
abbrev s_law_right : Stmt := top 35
abbrev s_keeps : Stmt := top 26
abbrev s_is_number : Stmt := top 6
abbrev s_is_perm : Stmt := top 8
abbrev s_is_day : Stmt := top 10
abbrev s_are_legs : Stmt := top 27
abbrev s_law_judged : Stmt := top 42
abbrev s_law_papers_judged : Stmt := top 43
abbrev s_law_whole : Stmt := top 29
abbrev s_law_told_right : Stmt := top 36
abbrev s_law : Stmt := top 44
abbrev s_BadEntry_init : Stmt := inCls (top 2) 0
abbrev s_Uneven_init : Stmt := inCls (top 3) 0
/-- what stands behind the top -/
structure Txt (K : PySem.W.Frag) (mg : Str → Option Value) : Prop where
  d_law_digits : DefAt K mg "_law_digits" "_law_digits" s_law_digits ["cell", "sizes"]
  d_law_day27 : DefAt K mg "_law_day" "_law_day" s_law_day27 ["size", "row"]
  d_law_drawn_legs : DefAt K mg "_law_drawn_legs" "_law_drawn_legs" s_law_drawn_legs ["rows", "columns", "one", "two", "three"]
  d_law_composed : DefAt K mg "_law_composed" "_law_composed" s_law_composed ["legs"]
  d_frozen : DefAt K mg "frozen" "frozen" s_frozen ["value"]
  d_check_square : DefAt K mg "check_square" "check_square" s_check_square ["rows"]
  d_search : DefAt K mg "search" "search" s_search ["rows", "owners", "start"]
  d_changed_owners : DefAt K mg "changed_owners" "changed_owners" s_changed_owners ["owners", "came", "start", "end"]
  d_greatest_owners : DefAt K mg "greatest_owners" "greatest_owners" s_greatest_owners ["rows"]
  d_reached_goals : DefAt K mg "reached_goals" "reached_goals" s_reached_goals ["rows", "owners", "free"]
  d_Matching_init : InitAt K mg "Matching" "Matching.__init__" s_Matching_init ["self", "partners", "count", "senders", "goals"]
  d_greatest_matching : DefAt K mg "greatest_matching" "greatest_matching" s_greatest_matching ["rows"]
  d_perfect_partners : DefAt K mg "perfect_partners" "perfect_partners" s_perfect_partners ["rows"]
  d_parted : DefAt K mg "parted" "parted" s_parted ["rows"]
  d_column_square : DefAt K mg "column_square" "column_square" s_column_square ["rows", "columns", "day"]
  d_chosen_rows : DefAt K mg "chosen_rows" "chosen_rows" s_chosen_rows ["rows", "columns", "day"]
  d_three_legs : DefAt K mg "three_legs" "three_legs" s_three_legs ["rows", "columns", "day"]
  d_law_renumbered : DefAt K mg "_law_renumbered" "_law_renumbered" s_law_renumbered ["legs", "columns", "turn"]
  d_law_cell : DefAt K mg "_law_cell" "_law_cell" s_law_cell ["script", "k"]
  d_law_rerouted : DefAt K mg "_law_rerouted" "_law_rerouted" s_law_rerouted ["legs", "k", "x", "y"]
  d_law_swapped : DefAt K mg "_law_swapped" "_law_swapped" s_law_swapped ["legs", "k", "x", "y"]
  d_law_replaced : DefAt K mg "_law_replaced" "_law_replaced" s_law_replaced ["legs", "k", "leg"]
  d_law_papers : DefAt K mg "_law_papers" "_law_papers" s_law_papers ["legs", "day", "k", "x", "y", "z", "far"]
  d_law_right : DefAt K mg "_law_right" "_law_right" s_law_right ["rows", "columns", "day", "legs"]
  d_keeps : DefAt K mg "keeps" "keeps" s_keeps ["leg", "columns", "part"]
  d_is_number : DefAt K mg "is_number" "is_number" s_is_number ["value"]
  d_is_perm : DefAt K mg "is_perm" "is_perm" s_is_perm ["value", "size"]
  d_is_day : DefAt K mg "is_day" "is_day" s_is_day ["value", "size"]
  d_are_legs : DefAt K mg "are_legs" "are_legs" s_are_legs ["rows", "columns", "day", "legs"]
  d_law_judged : DefAt K mg "_law_judged" "_law_judged" s_law_judged ["rows", "columns", "day", "paper"]
  d_law_papers_judged : DefAt K mg "_law_papers_judged" "_law_papers_judged" s_law_papers_judged ["rows", "columns", "day", "legs", "row"]
  d_law_whole : DefAt K mg "_law_whole" "_law_whole" s_law_whole ["value"]
  d_law_told_right : DefAt K mg "_law_told_right" "_law_told_right" s_law_told_right ["rows", "columns", "day", "told"]
  f_Matching_count : FldAt K mg "Matching" "count"
  f_Matching_goals : FldAt K mg "Matching" "goals"
  f_Matching_partners : FldAt K mg "Matching" "partners"
  f_Matching_senders : FldAt K mg "Matching" "senders"
  e_BadEntry : ErrAt K mg "BadEntry" "BadEntry.__init__" s_BadEntry_init ["self", "row", "column"] ["row", "column"]
  e_Uneven : ErrAt K mg "Uneven" "Uneven.__init__" s_Uneven_init ["self", "index"] ["index"]
  z_all : mg "all" = none
  z_bool : mg "bool" = none
  z_enumerate : mg "enumerate" = none
  z_int : mg "int" = none
  z_isinstance : mg "isinstance" = none
  z_len : mg "len" = none
  z_list : mg "list" = none
  z_max : mg "max" = none
  z_range : mg "range" = none
  z_sorted : mg "sorted" = none
  z_sum : mg "sum" = none
  z_tuple : mg "tuple" = none
theorem sc_BadEntry_init : FnScope ["self", "row", "column"] ["self", "row", "column"] (defScope s_BadEntry_init) := ⟨rfl, rfl, rfl, by decide +kernel, rfl, by decide +kernel, by decide +kernel⟩
theorem oe_BadEntry {P : Program} {w : World} {K : PySem.W.Frag} {mg : Str → Option Value} {base : Heap} (T : Txt K mg) : ErrN P w K mg base "BadEntry" 1 ["row", "column"] :=
  errN_of (fj := [("row", 1), ("column", 2)]) T.e_BadEntry sc_BadEntry_init rfl (by decide) rfl rfl (by decide) (by decide) fun f cdv A outer s H E =>
    (pss_cons (ps_ost (pe_var (i := 0) rfl (by first | exact Or.inl rfl | exact Or.inr (Or.inl rfl) | exact Or.inr (Or.inr rfl))) (pe_var (i := 1) rfl (by first | exact Or.inl rfl | exact Or.inr (Or.inl rfl) | exact Or.inr (Or.inr rfl)))) (pss_cons (ps_ost (pe_var (i := 0) rfl (by first | exact Or.inl rfl | exact Or.inr (Or.inl rfl) | exact Or.inr (Or.inr rfl))) (pe_var (i := 2) rfl (by first | exact Or.inl rfl | exact Or.inr (Or.inl rfl) | exact Or.inr (Or.inr rfl)))) pss_nil))
theorem sc_Uneven_init : FnScope ["self", "index"] ["self", "index"] (defScope s_Uneven_init) := ⟨rfl, rfl, rfl, by decide +kernel, rfl, by decide +kernel, by decide +kernel⟩
theorem oe_Uneven {P : Program} {w : World} {K : PySem.W.Frag} {mg : Str → Option Value} {base : Heap} (T : Txt K mg) : ErrN P w K mg base "Uneven" 1 ["index"] :=
  errN_of (fj := [("index", 1)]) T.e_Uneven sc_Uneven_init rfl (by decide) rfl rfl (by decide) (by decide) fun f cdv A outer s H E =>
    (pss_cons (ps_ost (pe_var (i := 0) rfl (by first | exact Or.inl rfl | exact Or.inr (Or.inl rfl) | exact Or.inr (Or.inr rfl))) (pe_var (i := 1) rfl (by first | exact Or.inl rfl | exact Or.inr (Or.inl rfl) | exact Or.inr (Or.inr rfl)))) pss_nil)
theorem sc_law_digits : FnScope ["cell", "sizes", "row", "rest", "seed", "k", "size", "twice"] ["cell", "sizes"] (defScope s_law_digits) := ⟨rfl, rfl, rfl, by decide +kernel, rfl, by decide +kernel, by decide +kernel⟩
theorem ok_law_digits {P : Program} {w : World} {K : PySem.W.Frag} {mg : Str → Option Value} {base : Heap} (T : Txt K mg) : Keeps P w K mg base "_law_digits" 1 ["cell", "sizes"] 2 .ow m_law_digits :=
  keeps_of T.d_law_digits sc_law_digits (by decide) fun f cdv A outer s H E hr =>
    (js_cons (js_set 2 (je_lst (md := .ow) ja_nil) sc_law_digits.nd)
    (js_cons (js_set 3 (je_int_ T.z_int (ja_cons (je_var 0) ja_nil)) sc_law_digits.nd)
    (js_cons (js_if (jt_ge (je_var 3) (je_pow je_int je_int)) (js_cons (js_set 3 (je_sub (je_var 3) (je_pow je_int je_int)) sc_law_digits.nd)
    (js_cons (js_for (ji_seq (je_var 1)) (jg_name 6 sc_law_digits.nd) (jss_fgt [6] (js_cons (js_app 2 (je_mod (je_int_ T.z_int (ja_cons (je_var 3) ja_nil)) (je_var 6)))
    (js_one (js_set 3 (je_div (je_int_ T.z_int (ja_cons (je_var 3) ja_nil)) (je_var 6)) sc_law_digits.nd)))) (passes_of rfl))
    (js_one (js_retV 2)))) js_nil)
    (js_cons (js_set 4 (je_mod (je_int_ T.z_int (ja_cons (je_var 3) ja_nil)) je_int) sc_law_digits.nd)
    (js_cons (js_for (ji_range1 (ja_cons (je_len T.z_len (ja_cons (je_var 1) ja_nil)) ja_nil) T.z_range) (jg_name 5 sc_law_digits.nd) (jss_fgt [5, 7] (js_cons (js_set 4 (je_mod (je_int_ T.z_int (ja_cons (je_add (je_add (je_mulI (je_var 4) je_int) (je_mulI je_int (je_var 5))) je_int) ja_nil)) je_int) sc_law_digits.nd)
    (js_cons (js_set 7 (je_mod (je_int_ T.z_int (ja_cons (je_mulI (je_var 4) (je_add (je_div (je_var 4) je_int) je_int)) ja_nil)) je_int) sc_law_digits.nd)
    (js_one (js_app 2 (je_mod (je_div (je_var 7) je_int) (je_item (je_var 1) (je_var 5)))))))) (passes_of rfl))
    (js_one (js_retV 2)))))))
theorem sc_law_day27 : FnScope ["size", "row", "left", "day", "k"] ["size", "row"] (defScope s_law_day27) := ⟨rfl, rfl, rfl, by decide +kernel, rfl, by decide +kernel, by decide +kernel⟩
theorem ok_law_day27 {P : Program} {w : World} {K : PySem.W.Frag} {mg : Str → Option Value} {base : Heap} (T : Txt K mg) : Keeps P w K mg base "_law_day" 1 ["size", "row"] 2 .ow m_law_day27 :=
  keeps_of T.d_law_day27 sc_law_day27 (by decide) fun f cdv A outer s H E hr =>
    (js_cons (js_setLc 2 sc_law_day27 [("k", 4)] (ji_range1 (ja_cons (je_var 0) ja_nil) T.z_range) (fun _ _ _ _ _ => (jg_name 4 sc_law_day27.nd)) (fun _ _ _ _ _ => jts_nil) (fun _ _ _ _ _ => (je_var 4)))
    (js_cons (js_set 3 (je_lst (md := .ow) ja_nil) sc_law_day27.nd)
    (js_cons (js_for (ji_range1 (ja_cons (je_var 0) ja_nil) T.z_range) (jg_name 4 sc_law_day27.nd) (jss_fgt [4] (js_one (js_appX 3 (jx_pop 2 (je_mod (je_int_ T.z_int (ja_cons (je_item (je_var 1) (je_var 4)) ja_nil)) (je_borrow (m1 := [.sh, .sh, .sh, .sh, .sh]) (je_len T.z_len (ja_cons (je_var 2) ja_nil)))))))) (passes_of rfl))
    (js_one (js_retV 3)))))
theorem sc_law_drawn_legs : FnScope ["rows", "columns", "one", "two", "three", "legs", "b", "a", "goals", "ends", "k", "u"] ["rows", "columns", "one", "two", "three"] (defScope s_law_drawn_legs) := ⟨rfl, rfl, rfl, by decide +kernel, rfl, by decide +kernel, by decide +kernel⟩
theorem ok_law_drawn_legs {P : Program} {w : World} {K : PySem.W.Frag} {mg : Str → Option Value} {base : Heap} (T : Txt K mg) : Keeps P w K mg base "_law_drawn_legs" 2 ["rows", "columns", "one", "two", "three"] 5 .sh m_law_drawn_legs :=
  keeps_of T.d_law_drawn_legs sc_law_drawn_legs (by decide) fun f cdv A outer s H E hr =>
    (js_cons (js_setLcT 1 5 sc_law_drawn_legs [("k", 10)] (ji_range1 (ja_cons je_int ja_nil) T.z_range) (fun _ _ _ _ _ => (jg_name 10 sc_law_drawn_legs.nd)) (fun _ _ _ _ _ => jts_nil) (fun _ _ _ _ _ => (je_lcB sc_law_drawn_legs [("u", 11)] (ji_range1 (ja_cons (je_mulI (je_var 0) (je_var 1)) ja_nil) T.z_range) (fun _ _ _ _ _ => (jg_name 11 sc_law_drawn_legs.nd)) (fun _ _ _ _ _ => jts_nil) (fun _ _ _ _ _ => je_int))))
    (js_cons (js_for (ji_range1 (ja_cons (je_var 1) ja_nil) T.z_range) (jg_name 6 sc_law_drawn_legs.nd) (jss_fgt [6, 7, 8, 9] (js_end (m1 := [.sh, .sh, .sh, .sh, .sh, .tr 2 none none, .sh, .sh, .ow, .ow, .sh, .sh]) (m2 := [.sh, .sh, .sh, .sh, .sh, .tr 2 none none, .sh, .sh, .sh, .sh, .sh, .sh]) (js_cons (js_set 8 (je_call (ok_law_day27 T) (hr.mono (by decide)) (takes_of rfl rfl rfl rfl) (ja_cons (je_var 0) (ja_cons (je_cut (je_var 2) (jo_some (je_mulI (je_var 0) (je_var 6))) jo_none) ja_nil))) sc_law_drawn_legs.nd)
    (js_cons (js_set 9 (je_call (ok_law_day27 T) (hr.mono (by decide)) (takes_of rfl rfl rfl rfl) (ja_cons (je_var 0) (ja_cons (je_cut (je_var 4) (jo_some (je_mulI (je_var 0) (je_var 6))) jo_none) ja_nil))) sc_law_drawn_legs.nd)
    (js_one (js_for (ji_range1 (ja_cons (je_var 0) ja_nil) T.z_range) (jg_name 7 sc_law_drawn_legs.nd) (jss_fgt [7] (js_cons (js_set2T 0 5 (je_add (je_mulI (je_itemO 8 (je_var 7)) (je_var 1)) (je_var 6)) je_int (je_add (je_mulI (je_var 7) (je_var 1)) (je_var 6)))
    (js_one (js_set2T 0 5 (je_add (je_mulI (je_itemO 9 (je_var 7)) (je_var 1)) (je_var 6)) je_int (je_add (je_mulI (je_var 7) (je_var 1)) (je_var 6)))))) (passes_of rfl))))))) (passes_of rfl))
    (js_cons (js_for (ji_range1 (ja_cons (je_var 0) ja_nil) T.z_range) (jg_name 7 sc_law_drawn_legs.nd) (jss_fgt [6, 7, 8] (js_end (m1 := [.sh, .sh, .sh, .sh, .sh, .tr 2 none none, .sh, .sh, .ow, .sh, .sh, .sh]) (m2 := [.sh, .sh, .sh, .sh, .sh, .tr 2 none none, .sh, .sh, .sh, .sh, .sh, .sh]) (js_cons (js_set 8 (je_call (ok_law_day27 T) (hr.mono (by decide)) (takes_of rfl rfl rfl rfl) (ja_cons (je_var 1) (ja_cons (je_cut (je_var 3) (jo_some (je_mulI (je_var 1) (je_var 7))) jo_none) ja_nil))) sc_law_drawn_legs.nd)
    (js_one (js_for (ji_range1 (ja_cons (je_var 1) ja_nil) T.z_range) (jg_name 6 sc_law_drawn_legs.nd) (jss_fgt [6] (js_one (js_set2T 0 5 (je_add (je_mulI (je_var 7) (je_var 1)) (je_itemO 8 (je_var 6))) je_int (je_add (je_mulI (je_var 7) (je_var 1)) (je_var 6))))) (passes_of rfl)))))) (passes_of rfl))
    (js_one (js_weak1 (m := [.sh, .sh, .sh, .sh, .sh, .tr 2 none none, .sh, .sh, .sh, .sh, .sh, .sh]) (m1 := [.sh, .sh, .sh, .sh, .sh, .sh, .sh, .sh, .sh, .sh, .sh, .sh]) (js_retV 5))))))
theorem sc_law_composed : FnScope ["legs", "one"] ["legs"] (defScope s_law_composed) := ⟨rfl, rfl, rfl, by decide +kernel, rfl, by decide +kernel, by decide +kernel⟩
theorem ok_law_composed {P : Program} {w : World} {K : PySem.W.Frag} {mg : Str → Option Value} {base : Heap} (T : Txt K mg) : Keeps P w K mg base "_law_composed" 1 ["legs"] 1 .ow m_law_composed :=
  keeps_of T.d_law_composed sc_law_composed (by decide) fun f cdv A outer s H E hr =>
    (js_one (js_ret (je_lc sc_law_composed [("one", 1)] (ji_seq (je_item (je_var 0) je_int)) (fun _ _ _ _ _ => (jg_name 1 sc_law_composed.nd)) (fun _ _ _ _ _ => jts_nil) (fun _ _ _ _ _ => (je_item (je_item (je_var 0) je_int) (je_item (je_item (je_var 0) je_int) (je_var 1)))))))
theorem sc_frozen : FnScope ["value", "item"] ["value"] (defScope s_frozen) := ⟨rfl, rfl, rfl, by decide +kernel, rfl, by decide +kernel, by decide +kernel⟩
theorem okr_frozen {P : Program} {w : World} {K : PySem.W.Frag} {mg : Str → Option Value} {base : Heap} (T : Txt K mg) : ∀ n, Keeps P w K mg base "frozen" (0 + n) ["value"] 1 .sh (r_frozen n)
  | 0 => keeps_er T.d_frozen
  | n + 1 => by
    have IH := okr_frozen (P := P) (w := w) (base := base) T n
    exact keeps_of T.d_frozen sc_frozen (by decide) fun f cdv A outer s H E hr =>
    (js_cons (js_if (jt_tr (je_isi2 "list" "tuple" T.z_isinstance T.z_list T.z_tuple (je_var 0))) (js_one (js_ret (je_tuple T.z_tuple (ja_cons (je_share (je_lc sc_frozen [("item", 1)] (ji_seq (je_var 0)) (fun _ _ _ _ _ => (jg_name 1 sc_frozen.nd)) (fun _ _ _ _ _ => jts_nil) (fun _ _ _ _ _ => (je_call IH (hr.mono (Nat.le_refl _)) takesF (ja_cons (je_var 1) ja_nil))))) ja_nil)))) js_nil)
    (js_one (js_retV 0)))
theorem ok_frozen {P : Program} {w : World} {K : PySem.W.Frag} {mg : Str → Option Value} {base : Heap} (T : Txt K mg) : Keeps P w K mg base "frozen" 6 ["value"] 1 .sh m_frozen := okr_frozen T 6
theorem sc_check_square : FnScope ["rows", "size", "u", "sums", "v", "index", "line", "row"] ["rows"] (defScope s_check_square) := ⟨rfl, rfl, rfl, by decide +kernel, rfl, by decide +kernel, by decide +kernel⟩
theorem ok_check_square {P : Program} {w : World} {K : PySem.W.Frag} {mg : Str → Option Value} {base : Heap} (T : Txt K mg) : Keeps P w K mg base "check_square" 3 ["rows"] 1 .sh m_check_square :=
  keeps_of T.d_check_square sc_check_square (by decide) fun f cdv A outer s H E hr =>
    (js_cons (js_set 1 (je_len T.z_len (ja_cons (je_var 0) ja_nil)) sc_check_square.nd)
    (js_cons (js_for (ji_range1 (ja_cons (je_var 1) ja_nil) T.z_range) (jg_name 2 sc_check_square.nd) (jss_fgt [2, 4] (js_one (js_for (ji_range1 (ja_cons (je_var 1) ja_nil) T.z_range) (jg_name 4 sc_check_square.nd) (jss_fgt [4] (js_one (js_if (jt_lt (je_item (je_item (je_var 0) (je_var 2)) (je_var 4)) je_int) (js_one (js_raiseN (oe_BadEntry T) (hr.mono (by decide)) (takes_of rfl rfl rfl rfl) (ja_cons (je_var 2) (ja_cons (je_var 4) ja_nil)))) js_nil))) (passes_of rfl)))) (passes_of rfl))
    (js_cons (js_set 3 (je_addL (je_share (je_lc sc_check_square [("row", 7)] (ji_seq (je_var 0)) (fun _ _ _ _ _ => (jg_name 7 sc_check_square.nd)) (fun _ _ _ _ _ => jts_nil) (fun _ _ _ _ _ => (je_sumB T.z_sum (ja_cons (je_var 7) ja_nil))))) (je_share (je_lc sc_check_square [("v", 4)] (ji_range1 (ja_cons (je_var 1) ja_nil) T.z_range) (fun _ _ _ _ _ => (jg_name 4 sc_check_square.nd)) (fun _ _ _ _ _ => jts_nil) (fun _ _ _ _ _ => (je_sumB T.z_sum (ja_cons (je_share (je_lcB sc_check_square [("row", 7)] (ji_seq (je_var 0)) (fun _ _ _ _ _ => (jg_name 7 sc_check_square.nd)) (fun _ _ _ _ _ => jts_nil) (fun _ _ _ _ _ => (je_item (je_var 7) (je_var 4))))) ja_nil)))))) sc_check_square.nd)
    (js_one (js_weak1 (m := [.sh, .sh, .sh, .ow, .sh, .sh, .sh, .sh]) (m1 := [.sh, .sh, .sh, .sh, .sh, .sh, .sh, .sh]) (js_for (ji_enum (ja_cons (je_var 3) ja_nil) T.z_enumerate) (jg_tup2 (jg_name 5 sc_check_square.nd) (jg_name 6 sc_check_square.nd)) (jss_fgt [5, 6] (js_one (js_if (jt_ne hr.u (je_var 6) (je_item (je_var 3) je_int)) (js_one (js_raiseN (oe_Uneven T) (hr.mono (by decide)) (takes_of rfl rfl rfl rfl) (ja_cons (je_var 5) ja_nil))) js_nil))) (passes_of rfl)))))))
theorem sc_search : FnScope ["rows", "owners", "start", "came", "waiting", "at", "sender", "goal"] ["rows", "owners", "start"] (defScope s_search) := ⟨rfl, rfl, rfl, by decide +kernel, rfl, by decide +kernel, by decide +kernel⟩
theorem ok_search {P : Program} {w : World} {K : PySem.W.Frag} {mg : Str → Option Value} {base : Heap} (T : Txt K mg) : Keeps P w K mg base "search" 1 ["rows", "owners", "start"] 3 .sh m_search :=
  keeps_of T.d_search sc_search (by decide) fun f cdv A outer s H E hr =>
    (js_cons (js_set 3 je_dnew sc_search.nd)
    (js_cons (js_set 4 (je_lst (md := .ow) (ja_cons (je_var 2) ja_nil)) sc_search.nd)
    (js_cons (js_set 5 je_int sc_search.nd)
    (js_cons (js_while (jt_lt (je_var 5) (je_borrow (m1 := [.sh, .sh, .sh, .sh, .sh, .sh, .sh, .sh]) (je_len T.z_len (ja_cons (je_var 4) ja_nil)))) (jss_fgt [6, 7] (js_cons (js_set 6 (je_itemO 4 (je_var 5)) sc_search.nd)
    (js_cons (js_aug 5 ip_add je_int sc_search.nd)
    (js_one (js_for (ji_seq (je_item (je_var 0) (je_var 6))) (jg_name 7 sc_search.nd) (jss_fgt [7] (js_one (js_if (jt_borrow (m1 := [.sh, .sh, .sh, .sh, .sh, .sh, .sh, .sh]) (jt_dhasnot hr.u (je_var 7) (je_var 3))) (js_cons (js_dput 3 hr.u (je_var 6) (je_var 7))
    (js_cons (js_if (jt_isN (je_item (je_var 1) (je_var 7))) (js_one (js_weak1 (m := [.sh, .sh, .sh, .dk, .ow, .sh, .sh, .sh]) (m1 := [.sh, .sh, .sh, .sh, .ow, .sh, .sh, .sh]) (js_ret (je_tup (ja_cons (je_var 3) (ja_cons (je_var 7) ja_nil)))))) js_nil)
    (js_one (js_app 4 (je_item (je_var 1) (je_var 7)))))) js_nil))) (passes_of rfl)))))) (passes_of rfl))
    (js_one (js_weak1 (m := [.sh, .sh, .sh, .dk, .ow, .sh, .sh, .sh]) (m1 := [.sh, .sh, .sh, .sh, .ow, .sh, .sh, .sh]) (js_ret (je_tup (ja_cons (je_var 3) (ja_cons je_non ja_nil))))))))))
theorem sc_changed_owners : FnScope ["owners", "came", "start", "end", "goals", "changed", "goal", "sender", "owner"] ["owners", "came", "start", "end"] (defScope s_changed_owners) := ⟨rfl, rfl, rfl, by decide +kernel, rfl, by decide +kernel, by decide +kernel⟩
theorem ok_changed_owners {P : Program} {w : World} {K : PySem.W.Frag} {mg : Str → Option Value} {base : Heap} (T : Txt K mg) : Keeps P w K mg base "changed_owners" 1 ["owners", "came", "start", "end"] 4 .ow m_changed_owners :=
  keeps_of T.d_changed_owners sc_changed_owners (by decide) fun f cdv A outer s H E hr =>
    (js_cons (js_setDc 4 sc_changed_owners [("goal", 6), ("owner", 8)] (ji_enum (ja_cons (je_var 0) ja_nil) T.z_enumerate) (fun _ _ _ _ _ => (jg_tup2 (jg_name 6 sc_changed_owners.nd) (jg_name 8 sc_changed_owners.nd))) (fun _ _ _ _ _ => (jts_one (jt_notN (je_var 8)))) (fun _ _ _ _ _ => (je_var 8)) (fun _ _ _ _ _ => (je_var 6)))
    (js_cons (js_set 5 ((je_list (md := .ow)) T.z_list (ja_cons (je_var 0) ja_nil)) sc_changed_owners.nd)
    (js_cons (js_set 6 (je_var 3) sc_changed_owners.nd)
    (js_cons (js_set 7 (je_dget hr.u (je_var 1) (je_var 6)) sc_changed_owners.nd)
    (js_cons (js_while (jt_ne hr.u (je_var 7) (je_var 2)) (jss_fgt [] (js_cons (js_setix 5 (je_var 7) (je_var 6))
    (js_cons (js_set 6 (je_dgetO 4 hr.u (je_var 7)) sc_changed_owners.nd)
    (js_one (js_set 7 (je_dget hr.u (je_var 1) (je_var 6)) sc_changed_owners.nd))))) (passes_of rfl))
    (js_cons (js_setix 5 (je_var 2) (je_var 6))
    (js_one (js_retV 5))))))))
theorem sc_greatest_owners : FnScope ["rows", "owners", "sender", "row", "came", "end"] ["rows"] (defScope s_greatest_owners) := ⟨rfl, rfl, rfl, by decide +kernel, rfl, by decide +kernel, by decide +kernel⟩
theorem ok_greatest_owners {P : Program} {w : World} {K : PySem.W.Frag} {mg : Str → Option Value} {base : Heap} (T : Txt K mg) : Keeps P w K mg base "greatest_owners" 2 ["rows"] 1 .sh m_greatest_owners :=
  keeps_of T.d_greatest_owners sc_greatest_owners (by decide) fun f cdv A outer s H E hr =>
    (js_cons (js_setLc 1 sc_greatest_owners [("row", 3)] (ji_seq (je_var 0)) (fun _ _ _ _ _ => (jg_name 3 sc_greatest_owners.nd)) (fun _ _ _ _ _ => jts_nil) (fun _ _ _ _ _ => je_non))
    (js_cons (js_weak1 (m := [.sh, .ow, .sh, .sh, .sh, .sh]) (m1 := [.sh, .sh, .sh, .sh, .sh, .sh]) (js_for (ji_range1 (ja_cons (je_len T.z_len (ja_cons (je_var 0) ja_nil)) ja_nil) T.z_range) (jg_name 2 sc_greatest_owners.nd) (jss_fgt [2, 4, 5] (js_cons (js_asg (je_call (ok_search T) (hr.mono (by decide)) (takes_of rfl rfl rfl rfl) (ja_cons (je_var 0) (ja_cons (je_var 1) (ja_cons (je_var 2) ja_nil)))) (jg_tup2 (jg_name 4 sc_greatest_owners.nd) (jg_name 5 sc_greatest_owners.nd)))
    (js_one (js_fgt [] (js_if (jt_notN (je_var 5)) (js_end (m1 := [.sh, .ow, .sh, .sh, .sh, .sh]) (m2 := [.sh, .sh, .sh, .sh, .sh, .sh]) (js_one (js_set 1 (je_call (ok_changed_owners T) (hr.mono (by decide)) (takes_of rfl rfl rfl rfl) (ja_cons (je_var 1) (ja_cons (je_var 4) (ja_cons (je_var 2) (ja_cons (je_var 5) ja_nil))))) sc_greatest_owners.nd))) js_nil))))) (passes_of rfl)))
    (js_one (js_retV 1))))
theorem sc_reached_goals : FnScope ["rows", "owners", "free", "found", "sender"] ["rows", "owners", "free"] (defScope s_reached_goals) := ⟨rfl, rfl, rfl, by decide +kernel, rfl, by decide +kernel, by decide +kernel⟩
theorem ok_reached_goals {P : Program} {w : World} {K : PySem.W.Frag} {mg : Str → Option Value} {base : Heap} (T : Txt K mg) : Keeps P w K mg base "reached_goals" 2 ["rows", "owners", "free"] 3 .sh m_reached_goals :=
  keeps_of T.d_reached_goals sc_reached_goals (by decide) fun f cdv A outer s H E hr =>
    (js_cons (js_set 3 je_dnew sc_reached_goals.nd)
    (js_cons (js_for (ji_seq (je_var 2)) (jg_name 4 sc_reached_goals.nd) (jss_fgt [4] (js_one (js_upd 3 (je_item (je_call (ok_search T) (hr.mono (by decide)) (takes_of rfl rfl rfl rfl) (ja_cons (je_var 0) (ja_cons (je_var 1) (ja_cons (je_var 4) ja_nil)))) je_int)))) (passes_of rfl))
    (js_one (js_weak1 (m := [.sh, .sh, .sh, .dk, .sh]) (m1 := [.sh, .sh, .sh, .sh, .sh]) (js_retV 3)))))
theorem sc_Matching_init : FnScope ["self", "partners", "count", "senders", "goals"] ["self", "partners", "count", "senders", "goals"] (defScope s_Matching_init) := ⟨rfl, rfl, rfl, by decide +kernel, rfl, by decide +kernel, by decide +kernel⟩
theorem ok_Matching_init {P : Program} {w : World} {K : PySem.W.Frag} {mg : Str → Option Value} {base : Heap} (T : Txt K mg) : KeepsI P w K mg base "Matching" 1 ["self", "partners", "count", "senders", "goals"] 4 m_Matching_init :=
  keepsI_of T.d_Matching_init sc_Matching_init (by decide) rfl fun f p cdv A outer s H E hr =>
    (js_cons (js_fld "Matching" 0 T.f_Matching_partners (je_var 1))
    (js_cons (js_fld "Matching" 0 T.f_Matching_count (je_var 2))
    (js_cons (js_fld "Matching" 0 T.f_Matching_senders (je_var 3))
    (js_one (js_fld "Matching" 0 T.f_Matching_goals (je_var 4))))))
theorem sc_greatest_matching : FnScope ["rows", "owners", "partners", "free", "found", "seen", "senders", "goals", "goal", "owner", "row", "sender", "s"] ["rows"] (defScope s_greatest_matching) := ⟨rfl, rfl, rfl, by decide +kernel, rfl, by decide +kernel, by decide +kernel⟩
theorem ok_greatest_matching {P : Program} {w : World} {K : PySem.W.Frag} {mg : Str → Option Value} {base : Heap} (T : Txt K mg) : Keeps P w K mg base "greatest_matching" 7 ["rows"] 1 .sh m_greatest_matching :=
  keeps_of T.d_greatest_matching sc_greatest_matching (by decide) fun f cdv A outer s H E hr =>
    (js_cons (js_set 0 (je_call (ok_frozen T) (hr.mono (by decide)) (takes_of rfl rfl rfl rfl) (ja_cons (je_var 0) ja_nil)) sc_greatest_matching.nd)
    (js_cons (js_set 1 (je_call (ok_greatest_owners T) (hr.mono (by decide)) (takes_of rfl rfl rfl rfl) (ja_cons (je_var 0) ja_nil)) sc_greatest_matching.nd)
    (js_cons (js_setLc 2 sc_greatest_matching [("row", 10)] (ji_seq (je_var 0)) (fun _ _ _ _ _ => (jg_name 10 sc_greatest_matching.nd)) (fun _ _ _ _ _ => jts_nil) (fun _ _ _ _ _ => je_non))
    (js_cons (js_for (ji_enum (ja_cons (je_var 1) ja_nil) T.z_enumerate) (jg_tup2 (jg_name 8 sc_greatest_matching.nd) (jg_name 9 sc_greatest_matching.nd)) (jss_fgt [8, 9] (js_one (js_fgt [] (js_if (jt_notN (je_var 9)) (js_one (js_setix 2 (je_var 8) (je_var 9))) js_nil)))) (passes_of rfl))
    (js_cons (js_weak1 (m := [.sh, .sh, .ow, .sh, .sh, .sh, .sh, .sh, .sh, .sh, .sh, .sh, .sh]) (m1 := [.sh, .sh, .sh, .sh, .sh, .sh, .sh, .sh, .sh, .sh, .sh, .sh, .sh]) (js_setLc 3 sc_greatest_matching [("sender", 11), ("goal", 8)] (ji_enum (ja_cons (je_var 2) ja_nil) T.z_enumerate) (fun _ _ _ _ _ => (jg_tup2 (jg_name 11 sc_greatest_matching.nd) (jg_name 8 sc_greatest_matching.nd))) (fun _ _ _ _ _ => (jts_one (jt_isN (je_var 8)))) (fun _ _ _ _ _ => (je_var 11))))
    (js_cons (js_weak1 (m := [.sh, .sh, .sh, .ow, .sh, .sh, .sh, .sh, .sh, .sh, .sh, .sh, .sh]) (m1 := [.sh, .sh, .sh, .sh, .sh, .sh, .sh, .sh, .sh, .sh, .sh, .sh, .sh]) (js_set 4 (je_call (ok_reached_goals T) (hr.mono (by decide)) (takes_of rfl rfl rfl rfl) (ja_cons (je_var 0) (ja_cons (je_var 1) (ja_cons (je_var 3) ja_nil)))) sc_greatest_matching.nd))
    (js_cons (js_set 5 (je_dcK 4 sc_greatest_matching [("goal", 8)]  (fun _ _ _ _ _ => (jg_name 8 sc_greatest_matching.nd)) (fun _ _ _ _ _ => jts_nil) (fun _ _ _ _ _ => (je_item (je_var 1) (je_var 8))) (fun _ _ _ _ _ => je_bl)) sc_greatest_matching.nd)
    (js_cons (js_set 6 (je_tuple T.z_tuple (ja_cons (je_share (je_lc sc_greatest_matching [("s", 12), ("goal", 8)] (ji_enum (ja_cons (je_var 2) ja_nil) T.z_enumerate) (fun _ _ _ _ _ => (jg_tup2 (jg_name 12 sc_greatest_matching.nd) (jg_name 8 sc_greatest_matching.nd))) (fun _ _ _ _ _ => (jts_one (JW.jt (jw_and (jt_notN (je_var 8)) (jw_and1 (jt_borrow (m1 := [.sh, .sh, .sh, .sh, .sh, .sh, .sh, .sh, .sh, .sh, .sh, .sh, .sh]) (jt_dhasnot hr.u (je_var 12) (je_var 5)))))))) (fun _ _ _ _ _ => (je_var 12)))) ja_nil)) sc_greatest_matching.nd)
    (js_cons (js_set 7 (je_tuple T.z_tuple (ja_cons (je_share (je_sortK T.z_sorted (ja_cons (je_var 4) ja_nil))) ja_nil)) sc_greatest_matching.nd)
    (js_one (js_ret (je_make (ok_Matching_init T) (hr.mono (by decide)) (takes_of rfl rfl rfl rfl) (ja_cons (je_tuple T.z_tuple (ja_cons (je_var 2) ja_nil)) (ja_cons (je_sub (je_len T.z_len (ja_cons (je_var 0) ja_nil)) (je_len T.z_len (ja_cons (je_var 3) ja_nil))) (ja_cons (je_var 6) (ja_cons (je_var 7) ja_nil))))))))))))))))
theorem sc_perfect_partners : FnScope ["rows", "matching"] ["rows"] (defScope s_perfect_partners) := ⟨rfl, rfl, rfl, by decide +kernel, rfl, by decide +kernel, by decide +kernel⟩
theorem ok_perfect_partners {P : Program} {w : World} {K : PySem.W.Frag} {mg : Str → Option Value} {base : Heap} (T : Txt K mg) : Keeps P w K mg base "perfect_partners" 8 ["rows"] 1 .sh m_perfect_partners :=
  keeps_of T.d_perfect_partners sc_perfect_partners (by decide) fun f cdv A outer s H E hr =>
    (js_cons (js_set 1 (je_call (ok_greatest_matching T) (hr.mono (by decide)) (takes_of rfl rfl rfl rfl) (ja_cons (je_var 0) ja_nil)) sc_perfect_partners.nd)
    (js_cons (js_if (jt_lt (je_fld "Matching" T.f_Matching_count (je_var 1)) (je_len T.z_len (ja_cons (je_fld "Matching" T.f_Matching_partners (je_var 1)) ja_nil))) (js_one (js_ret je_non)) js_nil)
    (js_one (js_ret (je_fld "Matching" T.f_Matching_partners (je_var 1))))))
theorem sc_parted : FnScope ["rows", "left", "days", "step", "day", "row", "u", "v", "item"] ["rows"] (defScope s_parted) := ⟨rfl, rfl, rfl, by decide +kernel, rfl, by decide +kernel, by decide +kernel⟩
theorem ok_parted {P : Program} {w : World} {K : PySem.W.Frag} {mg : Str → Option Value} {base : Heap} (T : Txt K mg) : Keeps P w K mg base "parted" 9 ["rows"] 1 .sh m_parted :=
  keeps_of T.d_parted sc_parted (by decide) fun f cdv A outer s H E hr =>
    (js_cons (js_set 0 (je_call (ok_frozen T) (hr.mono (by decide)) (takes_of rfl rfl rfl rfl) (ja_cons (je_var 0) ja_nil)) sc_parted.nd)
    (js_cons (js_drop (je_call (ok_check_square T) (hr.mono (by decide)) (takes_of rfl rfl rfl rfl) (ja_cons (je_var 0) ja_nil)))
    (js_cons (js_setLcT 1 1 sc_parted [("row", 5)] (ji_seq (je_var 0)) (fun _ _ _ _ _ => (jg_name 5 sc_parted.nd)) (fun _ _ _ _ _ => jts_nil) (fun _ _ _ _ _ => ((je_list (md := .ow)) T.z_list (ja_cons (je_var 5) ja_nil))))
    (js_cons (js_set 2 (je_lst (md := .ow) ja_nil) sc_parted.nd)
    (js_cons (js_for (ji_range1 (ja_cons (je_sumB T.z_sum (ja_cons (je_item (je_var 0) je_int) ja_nil)) ja_nil) T.z_range) (jg_name 3 sc_parted.nd) (jss_fgt [3, 4, 6, 7] (js_cons (js_set 4 (je_borrowNl (m1 := [.sh, .sh, .sh, .sh, .sh, .sh, .sh, .sh, .sh]) (je_call (ok_perfect_partners T) (hr.mono (by decide)) (takes_of rfl rfl rfl rfl) (ja_cons (je_share (je_lc sc_parted [("row", 5)] (ji_seq (je_var 1)) (fun _ _ _ _ _ => (jg_name 5 sc_parted.nd)) (fun _ _ _ _ _ => jts_nil) (fun _ _ _ _ _ => (je_share (je_lcB sc_parted [("v", 7), ("item", 8)] (ji_enum (ja_cons (je_var 5) ja_nil) T.z_enumerate) (fun _ _ _ _ _ => (jg_tup2 (jg_name 7 sc_parted.nd) (jg_name 8 sc_parted.nd))) (fun _ _ _ _ _ => (jts_one (jt_gt (je_var 8) je_int))) (fun _ _ _ _ _ => (je_var 7))))))) ja_nil))) sc_parted.nd)
    (js_cons (js_app 2 (je_var 4))
    (js_one (js_for (ji_enum (ja_cons (je_var 4) ja_nil) T.z_enumerate) (jg_tup2 (jg_name 6 sc_parted.nd) (jg_name 7 sc_parted.nd)) (jss_fgt [6, 7] (js_one (js_aug2 1 ip_sub je_int (je_var 6) (je_var 7)))) (passes_of rfl)))))) (passes_of rfl))
    (js_one (js_weak1 (m := [.sh, .tr 2 none none, .ow, .sh, .sh, .sh, .sh, .sh, .sh]) (m1 := [.sh, .tr 2 none none, .sh, .sh, .sh, .sh, .sh, .sh, .sh]) (js_ret (je_tuple T.z_tuple (ja_cons (je_var 2) ja_nil))))))))))
theorem sc_column_square : FnScope ["rows", "columns", "day", "square", "node", "b", "d"] ["rows", "columns", "day"] (defScope s_column_square) := ⟨rfl, rfl, rfl, by decide +kernel, rfl, by decide +kernel, by decide +kernel⟩
theorem ok_column_square {P : Program} {w : World} {K : PySem.W.Frag} {mg : Str → Option Value} {base : Heap} (T : Txt K mg) : Keeps P w K mg base "column_square" 1 ["rows", "columns", "day"] 3 .sh m_column_square :=
  keeps_of T.d_column_square sc_column_square (by decide) fun f cdv A outer s H E hr =>
    (js_cons (js_setLcT 1 3 sc_column_square [("b", 5)] (ji_range1 (ja_cons (je_var 1) ja_nil) T.z_range) (fun _ _ _ _ _ => (jg_name 5 sc_column_square.nd)) (fun _ _ _ _ _ => jts_nil) (fun _ _ _ _ _ => (je_lcB sc_column_square [("d", 6)] (ji_range1 (ja_cons (je_var 1) ja_nil) T.z_range) (fun _ _ _ _ _ => (jg_name 6 sc_column_square.nd)) (fun _ _ _ _ _ => jts_nil) (fun _ _ _ _ _ => je_int))))
    (js_cons (js_for (ji_range1 (ja_cons (je_mulI (je_var 0) (je_var 1)) ja_nil) T.z_range) (jg_name 4 sc_column_square.nd) (jss_fgt [4] (js_one (js_aug2 3 ip_add je_int (je_mod (je_var 4) (je_var 1)) (je_mod (je_item (je_var 2) (je_var 4)) (je_var 1))))) (passes_of rfl))
    (js_one (js_weak1 (m := [.sh, .sh, .sh, .tr 2 none none, .sh, .sh, .sh]) (m1 := [.sh, .sh, .sh, .sh, .sh, .sh, .sh]) (js_retV 3)))))
theorem sc_chosen_rows : FnScope ["rows", "columns", "day", "chosen", "k", "part", "node", "b", "d", "a"] ["rows", "columns", "day"] (defScope s_chosen_rows) := ⟨rfl, rfl, rfl, by decide +kernel, rfl, by decide +kernel, by decide +kernel⟩
theorem ok_chosen_rows {P : Program} {w : World} {K : PySem.W.Frag} {mg : Str → Option Value} {base : Heap} (T : Txt K mg) : Keeps P w K mg base "chosen_rows" 10 ["rows", "columns", "day"] 3 .ow m_chosen_rows :=
  keeps_of T.d_chosen_rows sc_chosen_rows (by decide) fun f cdv A outer s H E hr =>
    (js_cons (js_setLc 3 sc_chosen_rows [("node", 6)] (ji_range1 (ja_cons (je_mulI (je_var 0) (je_var 1)) ja_nil) T.z_range) (fun _ _ _ _ _ => (jg_name 6 sc_chosen_rows.nd)) (fun _ _ _ _ _ => jts_nil) (fun _ _ _ _ _ => je_non))
    (js_cons (js_for (ji_enum (ja_cons (je_call (ok_parted T) (hr.mono (by decide)) (takes_of rfl rfl rfl rfl) (ja_cons (je_call (ok_column_square T) (hr.mono (by decide)) (takes_of rfl rfl rfl rfl) (ja_cons (je_var 0) (ja_cons (je_var 1) (ja_cons (je_var 2) ja_nil)))) ja_nil)) ja_nil) T.z_enumerate) (jg_tup2 (jg_name 4 sc_chosen_rows.nd) (jg_name 5 sc_chosen_rows.nd)) (jss_fgt [4, 5, 6, 7, 8, 9] (js_one (js_for (ji_enum (ja_cons (je_var 5) ja_nil) T.z_enumerate) (jg_tup2 (jg_name 7 sc_chosen_rows.nd) (jg_name 8 sc_chosen_rows.nd)) (jss_fgt [6, 7, 8, 9] (js_one (js_for (ji_range1 (ja_cons (je_var 0) ja_nil) T.z_range) (jg_name 9 sc_chosen_rows.nd) (jss_fgt [6, 9] (js_cons (js_set 6 (je_add (je_mulI (je_var 9) (je_var 1)) (je_var 7)) sc_chosen_rows.nd)
    (js_one (js_if (JW.jt (jw_and (jt_isN (je_itemO 3 (je_var 6))) (jw_and1 (jt_eq hr.u (je_mod (je_item (je_var 2) (je_var 6)) (je_var 1)) (je_var 8))))) (js_cons (js_setix 3 (je_var 4) (je_var 6))
    (js_one js_break)) js_nil)))) (passes_of rfl)))) (passes_of rfl)))) (passes_of rfl))
    (js_one (js_retV 3))))
theorem sc_three_legs : FnScope ["rows", "columns", "day", "chosen", "first", "second", "third", "node", "goal", "one", "two"] ["rows", "columns", "day"] (defScope s_three_legs) := ⟨rfl, rfl, rfl, by decide +kernel, rfl, by decide +kernel, by decide +kernel⟩
theorem ok_three_legs {P : Program} {w : World} {K : PySem.W.Frag} {mg : Str → Option Value} {base : Heap} (T : Txt K mg) : Keeps P w K mg base "three_legs" 11 ["rows", "columns", "day"] 3 .sh m_three_legs :=
  keeps_of T.d_three_legs sc_three_legs (by decide) fun f cdv A outer s H E hr =>
    (js_cons (js_set 2 (je_call (ok_frozen T) (hr.mono (by decide)) (takes_of rfl rfl rfl rfl) (ja_cons (je_var 2) ja_nil)) sc_three_legs.nd)
    (js_cons (js_set 3 (je_call (ok_chosen_rows T) (hr.mono (by decide)) (takes_of rfl rfl rfl rfl) (ja_cons (je_var 0) (ja_cons (je_var 1) (ja_cons (je_var 2) ja_nil)))) sc_three_legs.nd)
    (js_cons (js_setLc 4 sc_three_legs [("node", 7)] (ji_seq (je_var 2)) (fun _ _ _ _ _ => (jg_name 7 sc_three_legs.nd)) (fun _ _ _ _ _ => jts_nil) (fun _ _ _ _ _ => je_int))
    (js_cons (js_setLc 5 sc_three_legs [("node", 7)] (ji_seq (je_var 2)) (fun _ _ _ _ _ => (jg_name 7 sc_three_legs.nd)) (fun _ _ _ _ _ => jts_nil) (fun _ _ _ _ _ => je_int))
    (js_cons (js_setLc 6 sc_three_legs [("node", 7)] (ji_seq (je_var 2)) (fun _ _ _ _ _ => (jg_name 7 sc_three_legs.nd)) (fun _ _ _ _ _ => jts_nil) (fun _ _ _ _ _ => je_int))
    (js_cons (js_for (ji_enum (ja_cons (je_var 2) ja_nil) T.z_enumerate) (jg_tup2 (jg_name 7 sc_three_legs.nd) (jg_name 8 sc_three_legs.nd)) (jss_fgt [7, 8, 9, 10] (js_cons (js_set 9 (je_add (je_mulI (je_itemO 3 (je_var 7)) (je_var 1)) (je_mod (je_var 7) (je_var 1))) sc_three_legs.nd)
    (js_cons (js_set 10 (je_add (je_mulI (je_itemO 3 (je_var 7)) (je_var 1)) (je_mod (je_var 8) (je_var 1))) sc_three_legs.nd)
    (js_cons (js_setix 4 (je_var 9) (je_var 7))
    (js_cons (js_setix 5 (je_var 10) (je_var 9))
    (js_one (js_setix 6 (je_var 8) (je_var 10)))))))) (passes_of rfl))
    (js_one (js_weak1 (m := [.sh, .sh, .sh, .ow, .ow, .ow, .ow, .sh, .sh, .sh, .sh]) (m1 := [.sh, .sh, .sh, .ow, .sh, .ow, .ow, .sh, .sh, .sh, .sh]) (js_weak1 (m := [.sh, .sh, .sh, .ow, .sh, .ow, .ow, .sh, .sh, .sh, .sh]) (m1 := [.sh, .sh, .sh, .ow, .sh, .sh, .ow, .sh, .sh, .sh, .sh]) (js_weak1 (m := [.sh, .sh, .sh, .ow, .sh, .sh, .ow, .sh, .sh, .sh, .sh]) (m1 := [.sh, .sh, .sh, .ow, .sh, .sh, .sh, .sh, .sh, .sh, .sh]) (js_ret (je_tup (ja_cons (je_tuple T.z_tuple (ja_cons (je_var 4) ja_nil)) (ja_cons (je_tuple T.z_tuple (ja_cons (je_var 5) ja_nil)) (ja_cons (je_tuple T.z_tuple (ja_cons (je_var 6) ja_nil)) ja_nil)))))))))))))))
theorem sc_law_renumbered : FnScope ["legs", "columns", "turn", "other", "u", "moved", "k"] ["legs", "columns", "turn"] (defScope s_law_renumbered) := ⟨rfl, rfl, rfl, by decide +kernel, rfl, by decide +kernel, by decide +kernel⟩
theorem ok_law_renumbered {P : Program} {w : World} {K : PySem.W.Frag} {mg : Str → Option Value} {base : Heap} (T : Txt K mg) : Keeps P w K mg base "_law_renumbered" 1 ["legs", "columns", "turn"] 3 .sh m_law_renumbered :=
  keeps_of T.d_law_renumbered sc_law_renumbered (by decide) fun f cdv A outer s H E hr =>
    (js_cons (js_setLcT 1 3 sc_law_renumbered [("k", 6)] (ji_range1 (ja_cons je_int ja_nil) T.z_range) (fun _ _ _ _ _ => (jg_name 6 sc_law_renumbered.nd)) (fun _ _ _ _ _ => jts_nil) (fun _ _ _ _ _ => (je_lcB sc_law_renumbered [("u", 4)] (ji_seq (je_item (je_var 0) je_int)) (fun _ _ _ _ _ => (jg_name 4 sc_law_renumbered.nd)) (fun _ _ _ _ _ => jts_nil) (fun _ _ _ _ _ => je_int))))
    (js_cons (js_for (ji_range1 (ja_cons (je_len T.z_len (ja_cons (je_item (je_var 0) je_int) ja_nil)) ja_nil) T.z_range) (jg_name 4 sc_law_renumbered.nd) (jss_fgt [4, 5] (js_cons (js_set 5 (je_add (je_mulI (je_item (je_var 2) (je_div (je_var 4) (je_var 1))) (je_var 1)) (je_mod (je_var 4) (je_var 1))) sc_law_renumbered.nd)
    (js_cons (js_set2T 0 3 (je_add (je_mulI (je_item (je_var 2) (je_div (je_item (je_item (je_var 0) je_int) (je_var 4)) (je_var 1))) (je_var 1)) (je_mod (je_int_ T.z_int (ja_cons (je_item (je_item (je_var 0) je_int) (je_var 4)) ja_nil)) (je_var 1))) je_int (je_var 4))
    (js_cons (js_set2T 0 3 (je_add (je_mulI (je_item (je_var 2) (je_div (je_item (je_item (je_var 0) je_int) (je_var 4)) (je_var 1))) (je_var 1)) (je_mod (je_int_ T.z_int (ja_cons (je_item (je_item (je_var 0) je_int) (je_var 4)) ja_nil)) (je_var 1))) je_int (je_var 5))
    (js_one (js_set2T 0 3 (je_item (je_item (je_var 0) je_int) (je_var 4)) je_int (je_var 5))))))) (passes_of rfl))
    (js_one (js_weak1 (m := [.sh, .sh, .sh, .tr 2 none none, .sh, .sh, .sh]) (m1 := [.sh, .sh, .sh, .sh, .sh, .sh, .sh]) (js_retV 3)))))
theorem sc_law_cell : FnScope ["script", "k", "seed", "cell"] ["script", "k"] (defScope s_law_cell) := ⟨rfl, rfl, rfl, by decide +kernel, rfl, by decide +kernel, by decide +kernel⟩
theorem ok_law_cell {P : Program} {w : World} {K : PySem.W.Frag} {mg : Str → Option Value} {base : Heap} (T : Txt K mg) : Keeps P w K mg base "_law_cell" 1 ["script", "k"] 2 .sh m_law_cell :=
  keeps_of T.d_law_cell sc_law_cell (by decide) fun f cdv A outer s H E hr =>
    (js_cons (js_if (jt_lt (je_var 1) (je_len T.z_len (ja_cons (je_var 0) ja_nil))) (js_one (js_ret (je_item (je_var 0) (je_var 1)))) js_nil)
    (js_cons (js_set 2 je_int sc_law_cell.nd)
    (js_cons (js_for (ji_seq (je_var 0)) (jg_name 3 sc_law_cell.nd) (jss_fgt [3] (js_one (js_set 2 (je_mod (je_int_ T.z_int (ja_cons (je_add (je_mulI (je_var 2) je_int) (je_mod (je_int_ T.z_int (ja_cons (je_var 3) ja_nil)) je_int)) ja_nil)) je_int) sc_law_cell.nd))) (passes_of rfl))
    (js_one (js_ret (je_mod (je_int_ T.z_int (ja_cons (je_mulI (je_mulI (je_add (je_var 2) je_int) (je_add (je_var 1) je_int)) je_int) ja_nil)) je_int))))))
theorem sc_law_rerouted : FnScope ["legs", "k", "x", "y", "other", "leg"] ["legs", "k", "x", "y"] (defScope s_law_rerouted) := ⟨rfl, rfl, rfl, by decide +kernel, rfl, by decide +kernel, by decide +kernel⟩
theorem ok_law_rerouted {P : Program} {w : World} {K : PySem.W.Frag} {mg : Str → Option Value} {base : Heap} (T : Txt K mg) : Keeps P w K mg base "_law_rerouted" 1 ["legs", "k", "x", "y"] 4 .sh m_law_rerouted :=
  keeps_of T.d_law_rerouted sc_law_rerouted (by decide) fun f cdv A outer s H E hr =>
    (js_cons (js_setLcT 1 4 sc_law_rerouted [("leg", 5)] (ji_seq (je_var 0)) (fun _ _ _ _ _ => (jg_name 5 sc_law_rerouted.nd)) (fun _ _ _ _ _ => jts_nil) (fun _ _ _ _ _ => ((je_list (md := .ow)) T.z_list (ja_cons (je_var 5) ja_nil))))
    (js_cons (js_set2T 0 4 (je_var 3) (je_var 1) (je_index (je_item (je_var 0) (je_var 1)) (je_var 2)))
    (js_cons (js_set2T 0 4 (je_var 2) (je_var 1) (je_index (je_item (je_var 0) (je_var 1)) (je_var 3)))
    (js_cons (js_set2T 0 4 (je_item (je_item (je_var 0) (je_add (je_var 1) je_int)) (je_var 3)) (je_add (je_var 1) je_int) (je_var 2))
    (js_cons (js_set2T 0 4 (je_item (je_item (je_var 0) (je_add (je_var 1) je_int)) (je_var 2)) (je_add (je_var 1) je_int) (je_var 3))
    (js_one (js_weak1 (m := [.sh, .sh, .sh, .sh, .tr 2 none none, .sh]) (m1 := [.sh, .sh, .sh, .sh, .sh, .sh]) (js_retV 4))))))))
theorem sc_law_swapped : FnScope ["legs", "k", "x", "y", "other", "leg"] ["legs", "k", "x", "y"] (defScope s_law_swapped) := ⟨rfl, rfl, rfl, by decide +kernel, rfl, by decide +kernel, by decide +kernel⟩
theorem ok_law_swapped {P : Program} {w : World} {K : PySem.W.Frag} {mg : Str → Option Value} {base : Heap} (T : Txt K mg) : Keeps P w K mg base "_law_swapped" 1 ["legs", "k", "x", "y"] 4 .sh m_law_swapped :=
  keeps_of T.d_law_swapped sc_law_swapped (by decide) fun f cdv A outer s H E hr =>
    (js_cons (js_setLcT 1 4 sc_law_swapped [("leg", 5)] (ji_seq (je_var 0)) (fun _ _ _ _ _ => (jg_name 5 sc_law_swapped.nd)) (fun _ _ _ _ _ => jts_nil) (fun _ _ _ _ _ => ((je_list (md := .ow)) T.z_list (ja_cons (je_var 5) ja_nil))))
    (js_cons (js_set2T 0 4 (je_item (je_item (je_var 0) (je_var 1)) (je_var 3)) (je_var 1) (je_var 2))
    (js_cons (js_set2T 0 4 (je_item (je_item (je_var 0) (je_var 1)) (je_var 2)) (je_var 1) (je_var 3))
    (js_one (js_weak1 (m := [.sh, .sh, .sh, .sh, .tr 2 none none, .sh]) (m1 := [.sh, .sh, .sh, .sh, .sh, .sh]) (js_retV 4))))))
theorem sc_law_replaced : FnScope ["legs", "k", "leg", "other", "old"] ["legs", "k", "leg"] (defScope s_law_replaced) := ⟨rfl, rfl, rfl, by decide +kernel, rfl, by decide +kernel, by decide +kernel⟩
theorem ok_law_replaced {P : Program} {w : World} {K : PySem.W.Frag} {mg : Str → Option Value} {base : Heap} (T : Txt K mg) : Keeps P w K mg base "_law_replaced" 1 ["legs", "k", "leg"] 3 .ow m_law_replaced :=
  keeps_of T.d_law_replaced sc_law_replaced (by decide) fun f cdv A outer s H E hr =>
    (js_cons (js_setLc 3 sc_law_replaced [("old", 4)] (ji_seq (je_var 0)) (fun _ _ _ _ _ => (jg_name 4 sc_law_replaced.nd)) (fun _ _ _ _ _ => jts_nil) (fun _ _ _ _ _ => (je_share ((je_list (md := .ow)) T.z_list (ja_cons (je_var 4) ja_nil)))))
    (js_cons (js_setix 3 (je_share ((je_list (md := .ow)) T.z_list (ja_cons (je_var 2) ja_nil))) (je_var 1))
    (js_one (js_retV 3))))
theorem sc_law_papers : FnScope ["legs", "day", "k", "x", "y", "z", "far", "size", "plain", "twice", "below", "away", "papers", "u", "item"] ["legs", "day", "k", "x", "y", "z", "far"] (defScope s_law_papers) := ⟨rfl, rfl, rfl, by decide +kernel, rfl, by decide +kernel, by decide +kernel⟩
theorem ok_law_papers {P : Program} {w : World} {K : PySem.W.Frag} {mg : Str → Option Value} {base : Heap} (T : Txt K mg) : Keeps P w K mg base "_law_papers" 2 ["legs", "day", "k", "x", "y", "z", "far"] 7 .ow m_law_papers :=
  keeps_of T.d_law_papers sc_law_papers (by decide) fun f cdv A outer s H E hr =>
    (js_cons (js_set 7 (je_len T.z_len (ja_cons (je_var 1) ja_nil)) sc_law_papers.nd)
    (js_cons (js_setLc 8 sc_law_papers [("u", 13)] (ji_range1 (ja_cons (je_var 7) ja_nil) T.z_range) (fun _ _ _ _ _ => (jg_name 13 sc_law_papers.nd)) (fun _ _ _ _ _ => jts_nil) (fun _ _ _ _ _ => (je_var 13)))
    (js_cons (js_set 9 ((je_list (md := .ow)) T.z_list (ja_cons (je_item (je_var 0) (je_var 2)) ja_nil)) sc_law_papers.nd)
    (js_cons (js_setix 9 (je_item (je_item (je_var 0) (je_var 2)) (je_var 4)) (je_var 3))
    (js_cons (js_setLc 10 sc_law_papers [("item", 14)] (ji_seq (je_item (je_var 0) (je_var 2))) (fun _ _ _ _ _ => (jg_name 14 sc_law_papers.nd)) (fun _ _ _ _ _ => jts_nil) (fun _ _ _ _ _ => (je_item (je_share (je_lst (md := .ow) (ja_cons (je_var 14) (ja_cons (je_neg je_int) ja_nil)))) (je_int_ T.z_int (ja_cons (je_eq hr.u (je_var 14) (je_sub (je_var 7) je_int)) ja_nil)))))
    (js_cons (js_set 11 ((je_list (md := .ow)) T.z_list (ja_cons (je_item (je_var 0) (je_var 2)) ja_nil)) sc_law_papers.nd)
    (js_cons (js_setix 11 (je_var 6) (je_var 5))
    (js_cons (js_weak1 (m := [.sh, .sh, .sh, .sh, .sh, .sh, .sh, .sh, .ow, .ow, .ow, .ow, .sh, .sh, .sh]) (m1 := [.sh, .sh, .sh, .sh, .sh, .sh, .sh, .sh, .sh, .ow, .ow, .ow, .sh, .sh, .sh]) (js_set 12 (je_lst (md := .ow) (ja_cons (je_var 0) (ja_cons (je_share (je_lst (md := .ow) (ja_cons (je_item (je_var 0) je_int) (ja_cons (je_item (je_var 0) je_int) (ja_cons (je_item (je_var 0) je_int) ja_nil))))) (ja_cons (je_share (je_lst (md := .ow) (ja_cons (je_var 8) (ja_cons (je_var 1) (ja_cons (je_var 8) ja_nil))))) (ja_cons (je_share (je_lst (md := .ow) (ja_cons (je_var 1) (ja_cons (je_var 8) (ja_cons (je_var 8) ja_nil))))) (ja_cons (je_share (je_lst (md := .ow) (ja_cons (je_var 8) (ja_cons (je_var 8) (ja_cons (je_var 1) ja_nil))))) ja_nil)))))) sc_law_papers.nd))
    (js_cons (js_weak1 (m := [.sh, .sh, .sh, .sh, .sh, .sh, .sh, .sh, .sh, .ow, .ow, .ow, .ow, .sh, .sh]) (m1 := [.sh, .sh, .sh, .sh, .sh, .sh, .sh, .sh, .sh, .ow, .ow, .ow, .sh, .sh, .sh]) (js_set 12 (je_addL (je_var 12) (je_share (je_lst (md := .ow) (ja_cons (je_call (ok_law_rerouted T) (hr.mono (by decide)) (takes_of rfl rfl rfl rfl) (ja_cons (je_var 0) (ja_cons je_int (ja_cons (je_var 3) (ja_cons (je_var 5) ja_nil))))) (ja_cons (je_call (ok_law_rerouted T) (hr.mono (by decide)) (takes_of rfl rfl rfl rfl) (ja_cons (je_var 0) (ja_cons je_int (ja_cons (je_var 3) (ja_cons (je_var 4) ja_nil))))) (ja_cons (je_call (ok_law_rerouted T) (hr.mono (by decide)) (takes_of rfl rfl rfl rfl) (ja_cons (je_var 0) (ja_cons je_int (ja_cons (je_var 3) (ja_cons (je_var 5) ja_nil))))) ja_nil)))))) sc_law_papers.nd))
    (js_cons (js_weak1 (m := [.sh, .sh, .sh, .sh, .sh, .sh, .sh, .sh, .sh, .ow, .ow, .ow, .ow, .sh, .sh]) (m1 := [.sh, .sh, .sh, .sh, .sh, .sh, .sh, .sh, .sh, .ow, .ow, .ow, .sh, .sh, .sh]) (js_set 12 (je_addL (je_var 12) (je_share (je_lst (md := .ow) (ja_cons (je_call (ok_law_rerouted T) (hr.mono (by decide)) (takes_of rfl rfl rfl rfl) (ja_cons (je_var 0) (ja_cons je_int (ja_cons (je_var 3) (ja_cons (je_var 4) ja_nil))))) (ja_cons (je_call (ok_law_swapped T) (hr.mono (by decide)) (takes_of rfl rfl rfl rfl) (ja_cons (je_var 0) (ja_cons je_int (ja_cons (je_var 3) (ja_cons (je_var 4) ja_nil))))) (ja_cons (je_call (ok_law_swapped T) (hr.mono (by decide)) (takes_of rfl rfl rfl rfl) (ja_cons (je_var 0) (ja_cons je_int (ja_cons (je_var 3) (ja_cons (je_var 5) ja_nil))))) ja_nil)))))) sc_law_papers.nd))
    (js_cons (js_weak1 (m := [.sh, .sh, .sh, .sh, .sh, .sh, .sh, .sh, .sh, .ow, .ow, .ow, .ow, .sh, .sh]) (m1 := [.sh, .sh, .sh, .sh, .sh, .sh, .sh, .sh, .sh, .ow, .ow, .ow, .sh, .sh, .sh]) (js_weak1 (m := [.sh, .sh, .sh, .sh, .sh, .sh, .sh, .sh, .sh, .ow, .ow, .ow, .sh, .sh, .sh]) (m1 := [.sh, .sh, .sh, .sh, .sh, .sh, .sh, .sh, .sh, .sh, .ow, .ow, .sh, .sh, .sh]) (js_weak1 (m := [.sh, .sh, .sh, .sh, .sh, .sh, .sh, .sh, .sh, .sh, .ow, .ow, .sh, .sh, .sh]) (m1 := [.sh, .sh, .sh, .sh, .sh, .sh, .sh, .sh, .sh, .sh, .sh, .ow, .sh, .sh, .sh]) (js_set 12 (je_addL (je_var 12) (je_share (je_lst (md := .ow) (ja_cons (je_call (ok_law_swapped T) (hr.mono (by decide)) (takes_of rfl rfl rfl rfl) (ja_cons (je_var 0) (ja_cons je_int (ja_cons (je_var 3) (ja_cons (je_var 4) ja_nil))))) (ja_cons (je_share (je_call (ok_law_replaced T) (hr.mono (by decide)) (takes_of rfl rfl rfl rfl) (ja_cons (je_var 0) (ja_cons (je_var 2) (ja_cons (je_var 9) ja_nil))))) (ja_cons (je_share (je_call (ok_law_replaced T) (hr.mono (by decide)) (takes_of rfl rfl rfl rfl) (ja_cons (je_var 0) (ja_cons (je_var 2) (ja_cons (je_var 10) ja_nil))))) ja_nil)))))) sc_law_papers.nd))))
    (js_cons (js_weak1 (m := [.sh, .sh, .sh, .sh, .sh, .sh, .sh, .sh, .sh, .sh, .sh, .ow, .ow, .sh, .sh]) (m1 := [.sh, .sh, .sh, .sh, .sh, .sh, .sh, .sh, .sh, .sh, .sh, .ow, .sh, .sh, .sh]) (js_weak1 (m := [.sh, .sh, .sh, .sh, .sh, .sh, .sh, .sh, .sh, .sh, .sh, .ow, .sh, .sh, .sh]) (m1 := [.sh, .sh, .sh, .sh, .sh, .sh, .sh, .sh, .sh, .sh, .sh, .sh, .sh, .sh, .sh]) (js_set 12 (je_addL (je_var 12) (je_share (je_lst (md := .ow) (ja_cons (je_share (je_call (ok_law_replaced T) (hr.mono (by decide)) (takes_of rfl rfl rfl rfl) (ja_cons (je_var 0) (ja_cons (je_var 2) (ja_cons (je_var 11) ja_nil))))) (ja_cons (je_share (je_call (ok_law_replaced T) (hr.mono (by decide)) (takes_of rfl rfl rfl rfl) (ja_cons (je_var 0) (ja_cons (je_var 2) (ja_cons (je_cut (je_item (je_var 0) (je_var 2)) jo_none (jo_some (je_sub (je_var 7) je_int))) ja_nil))))) ja_nil))))) sc_law_papers.nd)))
    (js_one (js_weak1 (m := [.sh, .sh, .sh, .sh, .sh, .sh, .sh, .sh, .sh, .sh, .sh, .sh, .ow, .sh, .sh]) (m1 := [.sh, .sh, .sh, .sh, .sh, .sh, .sh, .sh, .sh, .sh, .sh, .sh, .sh, .sh, .sh]) (js_ret (je_addL (je_var 12) (je_share (je_lst (md := .ow) (ja_cons (je_share (je_call (ok_law_replaced T) (hr.mono (by decide)) (takes_of rfl rfl rfl rfl) (ja_cons (je_var 0) (ja_cons (je_var 2) (ja_cons (je_share (je_addL (je_item (je_var 0) (je_var 2)) (je_share (je_lst (md := .ow) (ja_cons (je_var 7) ja_nil))))) ja_nil))))) (ja_cons (je_share (je_call (ok_law_replaced T) (hr.mono (by decide)) (takes_of rfl rfl rfl rfl) (ja_cons (je_var 0) (ja_cons (je_var 2) (ja_cons (je_share (je_addL (je_item (je_var 0) (je_var 2)) (je_share (je_lst (md := .ow) (ja_cons (je_var 3) ja_nil))))) ja_nil))))) ja_nil))))))))))))))))))))
theorem sc_law_right : FnScope ["rows", "columns", "day", "legs", "size", "leg", "u", "one", "two", "end", "k"] ["rows", "columns", "day", "legs"] (defScope s_law_right) := ⟨rfl, rfl, rfl, by decide +kernel, rfl, by decide +kernel, by decide +kernel⟩
theorem ok_law_right {P : Program} {w : World} {K : PySem.W.Frag} {mg : Str → Option Value} {base : Heap} (T : Txt K mg) : Keeps P w K mg base "_law_right" 1 ["rows", "columns", "day", "legs"] 4 .sh m_law_right :=
  keeps_of T.d_law_right sc_law_right (by decide) fun f cdv A outer s H E hr =>
    (js_cons (js_set 4 (je_mulI (je_var 0) (je_var 1)) sc_law_right.nd)
    (js_cons (js_for (ji_seq (je_var 3)) (jg_name 5 sc_law_right.nd) (jss_fgt [5] (js_one (js_if (JW.jt (jw_or (jt_ne hr.u (je_len T.z_len (ja_cons (je_var 5) ja_nil)) (je_var 4)) (jw_or1 (jt_ne hr.u (je_share (je_sorted hr.u T.z_sorted (ja_cons (je_var 5) ja_nil))) (je_share (je_lc sc_law_right [("k", 10)] (ji_range1 (ja_cons (je_var 4) ja_nil) T.z_range) (fun _ _ _ _ _ => (jg_name 10 sc_law_right.nd)) (fun _ _ _ _ _ => jts_nil) (fun _ _ _ _ _ => (je_var 10)))))))) (js_one (js_ret je_bl)) js_nil))) (passes_of rfl))
    (js_cons (js_for (ji_range1 (ja_cons (je_var 4) ja_nil) T.z_range) (jg_name 6 sc_law_right.nd) (jss_fgt [6, 7, 8, 9] (js_cons (js_set 7 (je_int_ T.z_int (ja_cons (je_item (je_item (je_var 3) je_int) (je_var 6)) ja_nil)) sc_law_right.nd)
    (js_cons (js_set 8 (je_int_ T.z_int (ja_cons (je_item (je_item (je_var 3) je_int) (je_var 7)) ja_nil)) sc_law_right.nd)
    (js_cons (js_set 9 (je_int_ T.z_int (ja_cons (je_item (je_item (je_var 3) je_int) (je_var 8)) ja_nil)) sc_law_right.nd)
    (js_cons (js_if (JW.jt (jw_or (jt_ne hr.u (je_mod (je_var 7) (je_var 1)) (je_mod (je_var 6) (je_var 1))) (jw_or1 (jt_ne hr.u (je_div (je_var 8) (je_var 1)) (je_div (je_var 7) (je_var 1)))))) (js_one (js_ret je_bl)) js_nil)
    (js_one (js_if (JW.jt (jw_or (jt_ne hr.u (je_mod (je_var 9) (je_var 1)) (je_mod (je_var 8) (je_var 1))) (jw_or1 (jt_ne hr.u (je_var 9) (je_item (je_var 2) (je_var 6)))))) (js_one (js_ret je_bl)) js_nil))))))) (passes_of rfl))
    (js_one (js_ret je_bl)))))
theorem sc_keeps : FnScope ["leg", "columns", "part", "node", "goal"] ["leg", "columns", "part"] (defScope s_keeps) := ⟨rfl, rfl, rfl, by decide +kernel, rfl, by decide +kernel, by decide +kernel⟩
theorem ok_keeps {P : Program} {w : World} {K : PySem.W.Frag} {mg : Str → Option Value} {base : Heap} (T : Txt K mg) : Keeps P w K mg base "keeps" 1 ["leg", "columns", "part"] 3 .sh m_keeps :=
  keeps_of T.d_keeps sc_keeps (by decide) fun f cdv A outer s H E hr =>
    (js_cons (js_if (jt_eq hr.u (je_var 2) je_int) (js_one (js_ret (je_all T.z_all (ja_cons (je_share (je_lc sc_keeps [("node", 3), ("goal", 4)] (ji_enum (ja_cons (je_var 0) ja_nil) T.z_enumerate) (fun _ _ _ _ _ => (jg_tup2 (jg_name 3 sc_keeps.nd) (jg_name 4 sc_keeps.nd))) (fun _ _ _ _ _ => jts_nil) (fun _ _ _ _ _ => (je_eq hr.u (je_div (je_var 3) (je_var 1)) (je_div (je_var 4) (je_var 1)))))) ja_nil)))) js_nil)
    (js_one (js_ret (je_all T.z_all (ja_cons (je_share (je_lc sc_keeps [("node", 3), ("goal", 4)] (ji_enum (ja_cons (je_var 0) ja_nil) T.z_enumerate) (fun _ _ _ _ _ => (jg_tup2 (jg_name 3 sc_keeps.nd) (jg_name 4 sc_keeps.nd))) (fun _ _ _ _ _ => jts_nil) (fun _ _ _ _ _ => (je_eq hr.u (je_mod (je_var 3) (je_var 1)) (je_mod (je_var 4) (je_var 1)))))) ja_nil)))))
theorem sc_is_number : FnScope ["value"] ["value"] (defScope s_is_number) := ⟨rfl, rfl, rfl, by decide +kernel, rfl, by decide +kernel, by decide +kernel⟩
theorem ok_is_number {P : Program} {w : World} {K : PySem.W.Frag} {mg : Str → Option Value} {base : Heap} (T : Txt K mg) : Keeps P w K mg base "is_number" 1 ["value"] 1 .sh m_is_number :=
  keeps_of T.d_is_number sc_is_number (by decide) fun f cdv A outer s H E hr =>
    (js_one (js_ret (je_and (je_isi "int" T.z_isinstance T.z_int (je_var 0)) (je_last (je_not (je_isi "bool" T.z_isinstance T.z_bool (je_var 0)))))))
theorem sc_is_perm : FnScope ["value", "size", "item"] ["value", "size"] (defScope s_is_perm) := ⟨rfl, rfl, rfl, by decide +kernel, rfl, by decide +kernel, by decide +kernel⟩
theorem ok_is_perm {P : Program} {w : World} {K : PySem.W.Frag} {mg : Str → Option Value} {base : Heap} (T : Txt K mg) : Keeps P w K mg base "is_perm" 7 ["value", "size"] 2 .sh m_is_perm :=
  keeps_of T.d_is_perm sc_is_perm (by decide) fun f cdv A outer s H E hr =>
    (js_cons (js_set 0 (je_call (ok_frozen T) (hr.mono (by decide)) (takes_of rfl rfl rfl rfl) (ja_cons (je_var 0) ja_nil)) sc_is_perm.nd)
    (js_cons (js_if (JW.jt (jw_or (jt_ne hr.u (je_len T.z_len (ja_cons (je_var 0) ja_nil)) (je_var 1)) (jw_or1 (jt_not (jt_tr (je_all T.z_all (ja_cons (je_share (je_lc sc_is_perm [("item", 2)] (ji_seq (je_var 0)) (fun _ _ _ _ _ => (jg_name 2 sc_is_perm.nd)) (fun _ _ _ _ _ => jts_nil) (fun _ _ _ _ _ => (je_call (ok_is_number T) (hr.mono (by decide)) takesF (ja_cons (je_var 2) ja_nil))))) ja_nil))))))) (js_one (js_ret je_bl)) js_nil)
    (js_one (js_ret (je_eq hr.u (je_share (je_sorted hr.u T.z_sorted (ja_cons (je_var 0) ja_nil))) (je_share (je_listR1 (md := .ow) T.z_list T.z_range (je_var 1))))))))
theorem sc_is_day : FnScope ["value", "size"] ["value", "size"] (defScope s_is_day) := ⟨rfl, rfl, rfl, by decide +kernel, rfl, by decide +kernel, by decide +kernel⟩
theorem ok_is_day {P : Program} {w : World} {K : PySem.W.Frag} {mg : Str → Option Value} {base : Heap} (T : Txt K mg) : Keeps P w K mg base "is_day" 8 ["value", "size"] 2 .sh m_is_day :=
  keeps_of T.d_is_day sc_is_day (by decide) fun f cdv A outer s H E hr =>
    (js_one (js_ret (je_call (ok_is_perm T) (hr.mono (by decide)) (takes_of rfl rfl rfl rfl) (ja_cons (je_var 0) (ja_cons (je_var 1) ja_nil)))))
theorem sc_are_legs : FnScope ["rows", "columns", "day", "legs", "first", "second", "third", "leg", "node", "goal"] ["rows", "columns", "day", "legs"] (defScope s_are_legs) := ⟨rfl, rfl, rfl, by decide +kernel, rfl, by decide +kernel, by decide +kernel⟩
theorem ok_are_legs {P : Program} {w : World} {K : PySem.W.Frag} {mg : Str → Option Value} {base : Heap} (T : Txt K mg) : Keeps P w K mg base "are_legs" 9 ["rows", "columns", "day", "legs"] 4 .sh m_are_legs :=
  keeps_of T.d_are_legs sc_are_legs (by decide) fun f cdv A outer s H E hr =>
    (js_cons (js_set 2 (je_call (ok_frozen T) (hr.mono (by decide)) (takes_of rfl rfl rfl rfl) (ja_cons (je_var 2) ja_nil)) sc_are_legs.nd)
    (js_cons (js_asg (je_call (ok_frozen T) (hr.mono (by decide)) (takes_of rfl rfl rfl rfl) (ja_cons (je_var 3) ja_nil)) (jg_tup (jgs_cons (jg_name 4 sc_are_legs.nd) (jgs_cons (jg_name 5 sc_are_legs.nd) (jgs_cons (jg_name 6 sc_are_legs.nd) jgs_nil))) (gsC_len (gsC_len (gsC_len gs0_len)))))
    (js_cons (js_if (jt_not (jt_tr (je_all T.z_all (ja_cons (je_share (je_lc sc_are_legs [("leg", 7)] (ji_seq (je_tup (ja_cons (je_var 4) (ja_cons (je_var 5) (ja_cons (je_var 6) ja_nil))))) (fun _ _ _ _ _ => (jg_name 7 sc_are_legs.nd)) (fun _ _ _ _ _ => jts_nil) (fun _ _ _ _ _ => (je_call (ok_is_day T) (hr.mono (by decide)) takesF (ja_cons (je_var 7) (ja_cons (je_mulI (je_var 0) (je_var 1)) ja_nil)))))) ja_nil)))) (js_one (js_ret je_bl)) js_nil)
    (js_cons (js_if (JW.jt (jw_or (jt_not (jt_tr (je_call (ok_keeps T) (hr.mono (by decide)) (takes_of rfl rfl rfl rfl) (ja_cons (je_var 4) (ja_cons (je_var 1) (ja_cons je_int ja_nil)))))) (jw_or (jt_not (jt_tr (je_call (ok_keeps T) (hr.mono (by decide)) (takes_of rfl rfl rfl rfl) (ja_cons (je_var 5) (ja_cons (je_var 1) (ja_cons je_int ja_nil)))))) (jw_or1 (jt_not (jt_tr (je_call (ok_keeps T) (hr.mono (by decide)) (takes_of rfl rfl rfl rfl) (ja_cons (je_var 6) (ja_cons (je_var 1) (ja_cons je_int ja_nil)))))))))) (js_one (js_ret je_bl)) js_nil)
    (js_one (js_ret (je_all T.z_all (ja_cons (je_share (je_lc sc_are_legs [("node", 8), ("goal", 9)] (ji_enum (ja_cons (je_var 2) ja_nil) T.z_enumerate) (fun _ _ _ _ _ => (jg_tup2 (jg_name 8 sc_are_legs.nd) (jg_name 9 sc_are_legs.nd))) (fun _ _ _ _ _ => jts_nil) (fun _ _ _ _ _ => (je_eq hr.u (je_item (je_var 6) (je_item (je_var 5) (je_item (je_var 4) (je_var 8)))) (je_var 9))))) ja_nil))))))))
theorem sc_law_judged : FnScope ["rows", "columns", "day", "paper", "due", "passed", "lists", "tuples", "leg"] ["rows", "columns", "day", "paper"] (defScope s_law_judged) := ⟨rfl, rfl, rfl, by decide +kernel, rfl, by decide +kernel, by decide +kernel⟩
theorem ok_law_judged {P : Program} {w : World} {K : PySem.W.Frag} {mg : Str → Option Value} {base : Heap} (T : Txt K mg) : Keeps P w K mg base "_law_judged" 10 ["rows", "columns", "day", "paper"] 4 .sh m_law_judged :=
  keeps_of T.d_law_judged sc_law_judged (by decide) fun f cdv A outer s H E hr =>
    (js_cons (js_set 4 (je_call (ok_law_right T) (hr.mono (by decide)) (takes_of rfl rfl rfl rfl) (ja_cons (je_var 0) (ja_cons (je_var 1) (ja_cons (je_var 2) (ja_cons (je_var 3) ja_nil))))) sc_law_judged.nd)
    (js_cons (js_setLc 5 sc_law_judged [("leg", 8)] (ji_seq (je_var 3)) (fun _ _ _ _ _ => (jg_name 8 sc_law_judged.nd)) (fun _ _ _ _ _ => jts_nil) (fun _ _ _ _ _ => (je_share ((je_list (md := .ow)) T.z_list (ja_cons (je_var 8) ja_nil)))))
    (js_cons (js_weak1 (m := [.sh, .sh, .sh, .sh, .sh, .ow, .sh, .sh, .sh]) (m1 := [.sh, .sh, .sh, .sh, .sh, .sh, .sh, .sh, .sh]) (js_set 6 (je_call (ok_are_legs T) (hr.mono (by decide)) (takes_of rfl rfl rfl rfl) (ja_cons (je_var 0) (ja_cons (je_var 1) (ja_cons (je_share ((je_list (md := .ow)) T.z_list (ja_cons (je_var 2) ja_nil))) (ja_cons (je_var 5) ja_nil))))) sc_law_judged.nd))
    (js_cons (js_set 7 (je_call (ok_are_legs T) (hr.mono (by decide)) (takes_of rfl rfl rfl rfl) (ja_cons (je_var 0) (ja_cons (je_var 1) (ja_cons (je_tuple T.z_tuple (ja_cons (je_var 2) ja_nil)) (ja_cons (je_tup (ja_cons (je_tuple T.z_tuple (ja_cons (je_item (je_var 3) je_int) ja_nil)) (ja_cons (je_tuple T.z_tuple (ja_cons (je_item (je_var 3) je_int) ja_nil)) (ja_cons (je_tuple T.z_tuple (ja_cons (je_item (je_var 3) je_int) ja_nil)) ja_nil)))) ja_nil))))) sc_law_judged.nd)
    (js_cons (js_if (jt_ne hr.u (je_var 5) (je_share (je_lc sc_law_judged [("leg", 8)] (ji_seq (je_var 3)) (fun _ _ _ _ _ => (jg_name 8 sc_law_judged.nd)) (fun _ _ _ _ _ => jts_nil) (fun _ _ _ _ _ => (je_share ((je_list (md := .ow)) T.z_list (ja_cons (je_var 8) ja_nil))))))) (js_one (js_ret je_bl)) js_nil)
    (js_cons (js_if (jt_tr (je_var 4)) (js_one (js_ret (je_and (je_isB (je_var 6)) (je_last (je_isB (je_var 7)))))) js_nil)
    (js_one (js_ret (je_and (je_isB (je_var 6)) (je_last (je_isB (je_var 7))))))))))))
theorem sc_law_papers_judged : FnScope ["rows", "columns", "day", "legs", "row", "a", "b", "x", "y", "z", "far", "paper", "other"] ["rows", "columns", "day", "legs", "row"] (defScope s_law_papers_judged) := ⟨rfl, rfl, rfl, by decide +kernel, rfl, by decide +kernel, by decide +kernel⟩
theorem ok_law_papers_judged {P : Program} {w : World} {K : PySem.W.Frag} {mg : Str → Option Value} {base : Heap} (T : Txt K mg) : Keeps P w K mg base "_law_papers_judged" 11 ["rows", "columns", "day", "legs", "row"] 5 .sh m_law_papers_judged :=
  keeps_of T.d_law_papers_judged sc_law_papers_judged (by decide) fun f cdv A outer s H E hr =>
    (js_cons (js_set 5 (je_mod (je_int_ T.z_int (ja_cons (je_item (je_var 4) je_int) ja_nil)) (je_var 0)) sc_law_papers_judged.nd)
    (js_cons (js_set 6 (je_mod (je_int_ T.z_int (ja_cons (je_item (je_var 4) je_int) ja_nil)) (je_var 1)) sc_law_papers_judged.nd)
    (js_cons (js_set 7 (je_add (je_mulI (je_var 5) (je_var 1)) (je_var 6)) sc_law_papers_judged.nd)
    (js_cons (js_set 8 (je_add (je_mulI (je_mod (je_int_ T.z_int (ja_cons (je_add (je_add (je_var 5) je_int) (je_mod (je_int_ T.z_int (ja_cons (je_item (je_var 4) je_int) ja_nil)) (je_max2 T.z_max (ja_cons je_int (ja_cons (je_sub (je_var 0) je_int) ja_nil))))) ja_nil)) (je_var 0)) (je_var 1)) (je_var 6)) sc_law_papers_judged.nd)
    (js_cons (js_set 9 (je_add (je_mulI (je_var 5) (je_var 1)) (je_mod (je_int_ T.z_int (ja_cons (je_add (je_add (je_var 6) je_int) (je_mod (je_int_ T.z_int (ja_cons (je_item (je_var 4) je_int) ja_nil)) (je_max2 T.z_max (ja_cons je_int (ja_cons (je_sub (je_var 1) je_int) ja_nil))))) ja_nil)) (je_var 1))) sc_law_papers_judged.nd)
    (js_cons (js_set 10 (je_item (je_share (je_lst (md := .ow) (ja_cons (je_item (je_var 4) je_int) (ja_cons (je_sub (je_neg je_int) (je_item (je_var 4) je_int)) (ja_cons (je_mulI (je_var 0) (je_var 1)) (ja_cons (je_mod (je_int_ T.z_int (ja_cons (je_item (je_var 4) je_int) ja_nil)) je_int) ja_nil)))))) (je_item (je_var 4) je_int)) sc_law_papers_judged.nd)
    (js_cons (js_for (ji_seq (je_share (je_call (ok_law_papers T) (hr.mono (by decide)) (takes_of rfl rfl rfl rfl) (ja_cons (je_var 3) (ja_cons (je_var 2) (ja_cons (je_item (je_var 4) je_int) (ja_cons (je_var 7) (ja_cons (je_var 8) (ja_cons (je_var 9) (ja_cons (je_var 10) ja_nil)))))))))) (jg_name 11 sc_law_papers_judged.nd) (jss_fgt [11] (js_one (js_if (jt_not (jt_tr (je_call (ok_law_judged T) (hr.mono (by decide)) (takes_of rfl rfl rfl rfl) (ja_cons (je_var 0) (ja_cons (je_var 1) (ja_cons (je_var 2) (ja_cons (je_var 11) ja_nil))))))) (js_one (js_ret je_bl)) js_nil))) (passes_of rfl))
    (js_cons (js_if (jt_not (jt_tr (je_call (ok_law_judged T) (hr.mono (by decide)) (takes_of rfl rfl rfl rfl) (ja_cons (je_var 1) (ja_cons (je_var 0) (ja_cons (je_var 2) (ja_cons (je_var 3) ja_nil))))))) (js_one (js_ret je_bl)) js_nil)
    (js_cons (js_set 12 ((je_list (md := .ow)) T.z_list (ja_cons (je_var 2) ja_nil)) sc_law_papers_judged.nd)
    (js_cons (js_setix 12 (je_item (je_var 2) (je_var 8)) (je_var 7))
    (js_cons (js_setix 12 (je_item (je_var 2) (je_var 7)) (je_var 8))
    (js_one (js_weak1 (m := [.sh, .sh, .sh, .sh, .sh, .sh, .sh, .sh, .sh, .sh, .sh, .sh, .ow]) (m1 := [.sh, .sh, .sh, .sh, .sh, .sh, .sh, .sh, .sh, .sh, .sh, .sh, .sh]) (js_ret (je_call (ok_law_judged T) (hr.mono (by decide)) (takes_of rfl rfl rfl rfl) (ja_cons (je_var 0) (ja_cons (je_var 1) (ja_cons (je_var 12) (ja_cons (je_var 3) ja_nil)))))))))))))))))))
theorem sc_law_whole : FnScope ["value"] ["value"] (defScope s_law_whole) := ⟨rfl, rfl, rfl, by decide +kernel, rfl, by decide +kernel, by decide +kernel⟩
theorem ok_law_whole {P : Program} {w : World} {K : PySem.W.Frag} {mg : Str → Option Value} {base : Heap} (T : Txt K mg) : Keeps P w K mg base "_law_whole" 1 ["value"] 1 .sh m_law_whole :=
  keeps_of T.d_law_whole sc_law_whole (by decide) fun f cdv A outer s H E hr =>
    (js_one (js_ret (je_and (je_isi "int" T.z_isinstance T.z_int (je_var 0)) (je_last (je_not (je_isi "bool" T.z_isinstance T.z_bool (je_var 0)))))))
theorem sc_law_told_right : FnScope ["rows", "columns", "day", "told", "leg", "item"] ["rows", "columns", "day", "told"] (defScope s_law_told_right) := ⟨rfl, rfl, rfl, by decide +kernel, rfl, by decide +kernel, by decide +kernel⟩
theorem ok_law_told_right {P : Program} {w : World} {K : PySem.W.Frag} {mg : Str → Option Value} {base : Heap} (T : Txt K mg) : Keeps P w K mg base "_law_told_right" 2 ["rows", "columns", "day", "told"] 4 .sh m_law_told_right :=
  keeps_of T.d_law_told_right sc_law_told_right (by decide) fun f cdv A outer s H E hr =>
    (js_cons (js_if (JW.jt (jw_or (jt_not (jt_tr (je_isi "tuple" T.z_isinstance T.z_tuple (je_var 3)))) (jw_or1 (jt_ne hr.u (je_len T.z_len (ja_cons (je_var 3) ja_nil)) je_int)))) (js_one (js_ret je_bl)) js_nil)
    (js_cons (js_for (ji_seq (je_var 3)) (jg_name 4 sc_law_told_right.nd) (jss_fgt [4, 5] (js_cons (js_if (JW.jt (jw_or (jt_not (jt_tr (je_isi "tuple" T.z_isinstance T.z_tuple (je_var 4)))) (jw_or1 (jt_ne hr.u (je_len T.z_len (ja_cons (je_var 4) ja_nil)) (je_mulI (je_var 0) (je_var 1)))))) (js_one (js_ret je_bl)) js_nil)
    (js_one (js_for (ji_seq (je_var 4)) (jg_name 5 sc_law_told_right.nd) (jss_fgt [5] (js_one (js_if (jt_not (jt_tr (je_call (ok_law_whole T) (hr.mono (by decide)) (takes_of rfl rfl rfl rfl) (ja_cons (je_var 5) ja_nil)))) (js_one (js_ret je_bl)) js_nil))) (passes_of rfl))))) (passes_of rfl))
    (js_one (js_ret (je_call (ok_law_right T) (hr.mono (by decide)) (takes_of rfl rfl rfl rfl) (ja_cons (je_var 0) (ja_cons (je_var 1) (ja_cons (je_var 2) (ja_cons (je_var 3) ja_nil)))))))))
theorem sc_law : FnScope ["script", "head", "rows", "columns", "size", "drawn", "own", "day", "row", "passed", "told", "legs", "other", "k", "leg"] ["script"] (defScope s_law) := ⟨rfl, rfl, rfl, by decide +kernel, rfl, by decide +kernel, by decide +kernel⟩
theorem okf_law {P : Program} {w : World} {K : PySem.W.Frag} {mg : Str → Option Value} {base : Heap} (T : Txt K mg) {f : Addr} {fd : FuncData} (Fn : Fun K "law" "law" s_law f fd) : FnOk P w K mg base (L2.CX P w) 12 f fd ["script"] (spD K mg 1 .sh m_law) :=
  fn_ok (m' := msh 15) Fn sc_law (by decide) fun cdv A outer s H E hr =>
    (js_cons (js_set 1 (je_call (ok_law_digits T) (hr.mono (by decide)) (takes_of rfl rfl rfl rfl) (ja_cons (je_call (ok_law_cell T) (hr.mono (by decide)) (takes_of rfl rfl rfl rfl) (ja_cons (je_var 0) (ja_cons je_int ja_nil))) (ja_cons (je_share (je_lst (md := .ow) (ja_cons je_int (ja_cons je_int (ja_cons je_int (ja_cons je_int ja_nil)))))) ja_nil))) sc_law.nd)
    (js_cons (js_set 2 (je_add je_int (je_itemO 1 je_int)) sc_law.nd)
    (js_cons (js_set 3 (je_add je_int (je_mod (je_int_ T.z_int (ja_cons (je_itemO 1 je_int) ja_nil)) (je_div je_int (je_var 2)))) sc_law.nd)
    (js_cons (js_fgt [] (js_if (jt_lt (je_itemO 1 je_int) je_int) (js_cons (js_set 2 (je_item (je_share (je_lst (md := .ow) (ja_cons je_int (ja_cons je_int (ja_cons je_int (ja_cons je_int (ja_cons je_int (ja_cons je_int (ja_cons je_int (ja_cons je_int (ja_cons je_int (ja_cons je_int (ja_cons je_int (ja_cons je_int (ja_cons je_int (ja_cons je_int (ja_cons je_int (ja_cons je_int (ja_cons je_int (ja_cons je_int ja_nil)))))))))))))))))))) (je_itemO 1 je_int)) sc_law.nd)
    (js_one (js_set 3 (je_item (je_share (je_lst (md := .ow) (ja_cons je_int (ja_cons je_int (ja_cons je_int (ja_cons je_int (ja_cons je_int (ja_cons je_int (ja_cons je_int (ja_cons je_int (ja_cons je_int (ja_cons je_int (ja_cons je_int (ja_cons je_int (ja_cons je_int (ja_cons je_int (ja_cons je_int (ja_cons je_int (ja_cons je_int (ja_cons je_int ja_nil)))))))))))))))))))) (je_itemO 1 je_int)) sc_law.nd))) js_nil))
    (js_cons (js_set 4 (je_mulI (je_var 2) (je_var 3)) sc_law.nd)
    (js_cons (js_setLc 5 sc_law [("k", 13)] (ji_range1 (ja_cons je_int ja_nil) T.z_range) (fun _ _ _ _ _ => (jg_name 13 sc_law.nd)) (fun _ _ _ _ _ => jts_nil) (fun _ _ _ _ _ => (je_share (je_call (ok_law_digits T) (hr.mono (by decide)) takesF (ja_cons (je_call (ok_law_cell T) (hr.mono (by decide)) takesF (ja_cons (je_var 0) (ja_cons (je_add je_int (je_var 13)) ja_nil))) (ja_cons (je_share (je_rep (je_share (je_lst (md := .ow) (ja_cons je_int ja_nil))) je_int)) ja_nil))))))
    (js_cons (js_set 6 (je_call (ok_law_drawn_legs T) (hr.mono (by decide)) (takes_of rfl rfl rfl rfl) (ja_cons (je_var 2) (ja_cons (je_var 3) (ja_cons (je_itemO 5 je_int) (ja_cons (je_itemO 5 je_int) (ja_cons (je_itemO 5 je_int) ja_nil)))))) sc_law.nd)
    (js_cons (js_set 7 (je_call (ok_law_composed T) (hr.mono (by decide)) (takes_of rfl rfl rfl rfl) (ja_cons (je_var 6) ja_nil)) sc_law.nd)
    (js_cons (js_set 8 (je_call (ok_law_digits T) (hr.mono (by decide)) (takes_of rfl rfl rfl rfl) (ja_cons (je_call (ok_law_cell T) (hr.mono (by decide)) (takes_of rfl rfl rfl rfl) (ja_cons (je_var 0) (ja_cons je_int ja_nil))) (ja_cons (je_share (je_addL (je_share (je_rep (je_share (je_lst (md := .ow) (ja_cons je_int (ja_cons je_int (ja_cons je_int (ja_cons je_int (ja_cons je_int (ja_cons (je_sub (je_pow je_int je_int) je_int) (ja_cons je_int ja_nil))))))))) je_int)) (je_share (je_rep (je_share (je_lst (md := .ow) (ja_cons je_int ja_nil))) je_int)))) ja_nil))) sc_law.nd)
    (js_cons (js_if (JW.jt (jw_or (jt_not (jt_borrow (m1 := [.sh, .sh, .sh, .sh, .sh, .sh, .sh, .sh, .sh, .sh, .sh, .sh, .sh, .sh, .sh]) (jt_tr (je_call (ok_law_judged T) (hr.mono (by decide)) (takes_of rfl rfl rfl rfl) (ja_cons (je_var 2) (ja_cons (je_var 3) (ja_cons (je_var 7) (ja_cons (je_var 6) ja_nil)))))))) (jw_or1 (jt_not (jt_borrow (m1 := [.sh, .sh, .sh, .sh, .sh, .sh, .sh, .sh, .sh, .sh, .sh, .sh, .sh, .sh, .sh]) (jt_tr (je_call (ok_law_papers_judged T) (hr.mono (by decide)) (takes_of rfl rfl rfl rfl) (ja_cons (je_var 2) (ja_cons (je_var 3) (ja_cons (je_var 7) (ja_cons (je_var 6) (ja_cons (je_var 8) ja_nil)))))))))))) (js_one (js_ret je_bl)) js_nil)
    (js_cons (js_fgt [] (js_if (jt_gt (je_itemO 1 je_int) je_int) (js_one (js_set 7 (je_call (ok_law_day27 T) (hr.mono (by decide)) (takes_of rfl rfl rfl rfl) (ja_cons (je_var 4) (ja_cons (je_share (je_call (ok_law_digits T) (hr.mono (by decide)) (takes_of rfl rfl rfl rfl) (ja_cons (je_call (ok_law_cell T) (hr.mono (by decide)) (takes_of rfl rfl rfl rfl) (ja_cons (je_var 0) (ja_cons je_int ja_nil))) (ja_cons (je_share (je_rep (je_share (je_lst (md := .ow) (ja_cons je_int ja_nil))) je_int)) ja_nil)))) ja_nil))) sc_law.nd)) js_nil))
    (js_cons (js_weak1 (m := [.sh, .ow, .sh, .sh, .sh, .ow, .sh, .ow, .ow, .sh, .sh, .sh, .sh, .sh, .sh]) (m1 := [.sh, .ow, .sh, .sh, .sh, .ow, .sh, .sh, .ow, .sh, .sh, .sh, .sh, .sh, .sh]) (js_set 9 ((je_list (md := .ow)) T.z_list (ja_cons (je_var 7) ja_nil)) sc_law.nd))
    (js_cons (js_weak1 (m := [.sh, .ow, .sh, .sh, .sh, .ow, .sh, .sh, .ow, .ow, .sh, .sh, .sh, .sh, .sh]) (m1 := [.sh, .ow, .sh, .sh, .sh, .ow, .sh, .sh, .ow, .sh, .sh, .sh, .sh, .sh, .sh]) (js_set 10 (je_call (ok_three_legs T) (hr.mono (by decide)) (takes_of rfl rfl rfl rfl) (ja_cons (je_var 2) (ja_cons (je_var 3) (ja_cons (je_var 9) ja_nil)))) sc_law.nd))
    (js_cons (js_if (JW.jt (jw_or (jt_not (jt_tr (je_call (ok_law_told_right T) (hr.mono (by decide)) (takes_of rfl rfl rfl rfl) (ja_cons (je_var 2) (ja_cons (je_var 3) (ja_cons (je_var 7) (ja_cons (je_var 10) ja_nil))))))) (jw_or1 (jt_ne hr.u (je_var 9) (je_var 7))))) (js_one (js_ret je_bl)) js_nil)
    (js_cons (js_setLc 11 sc_law [("leg", 14)] (ji_seq (je_var 10)) (fun _ _ _ _ _ => (jg_name 14 sc_law.nd)) (fun _ _ _ _ _ => jts_nil) (fun _ _ _ _ _ => (je_share ((je_list (md := .ow)) T.z_list (ja_cons (je_var 14) ja_nil)))))
    (js_cons (js_weak1 (m := [.sh, .ow, .sh, .sh, .sh, .ow, .sh, .sh, .ow, .sh, .sh, .ow, .sh, .sh, .sh]) (m1 := [.sh, .ow, .sh, .sh, .sh, .ow, .sh, .sh, .ow, .sh, .sh, .sh, .sh, .sh, .sh]) (js_set 12 (je_call (ok_law_renumbered T) (hr.mono (by decide)) (takes_of rfl rfl rfl rfl) (ja_cons (je_var 11) (ja_cons (je_var 3) (ja_cons (je_share (je_call (ok_law_day27 T) (hr.mono (by decide)) (takes_of rfl rfl rfl rfl) (ja_cons (je_var 2) (ja_cons (je_share (je_cutLO 8 (jo_some je_int) jo_none)) ja_nil)))) ja_nil)))) sc_law.nd))
    (js_cons (js_if (JW.jt (jw_or (jt_not (jt_tr (je_call (ok_law_right T) (hr.mono (by decide)) (takes_of rfl rfl rfl rfl) (ja_cons (je_var 2) (ja_cons (je_var 3) (ja_cons (je_var 7) (ja_cons (je_var 12) ja_nil))))))) (jw_or1 (jt_not (jt_tr (je_call (ok_law_judged T) (hr.mono (by decide)) (takes_of rfl rfl rfl rfl) (ja_cons (je_var 2) (ja_cons (je_var 3) (ja_cons (je_var 7) (ja_cons (je_var 12) ja_nil)))))))))) (js_one (js_ret je_bl)) js_nil)
    (js_cons (js_if (jt_not (jt_tr (je_call (ok_law_papers_judged T) (hr.mono (by decide)) (takes_of rfl rfl rfl rfl) (ja_cons (je_var 2) (ja_cons (je_var 3) (ja_cons (je_var 7) (ja_cons (je_var 11) (ja_cons (je_share (je_cutLO 8 (jo_some je_int) (jo_some je_int))) ja_nil)))))))) (js_one (js_ret je_bl)) js_nil)
    (js_one (js_ret (je_eq hr.u (je_call (ok_three_legs T) (hr.mono (by decide)) (takes_of rfl rfl rfl rfl) (ja_cons (je_var 2) (ja_cons (je_var 3) (ja_cons (je_tuple T.z_tuple (ja_cons (je_var 7) ja_nil)) ja_nil)))) (je_var 10))))))))))))))))))))))
end Kx
namespace Da
open PySem PySem.Spec L2
section
variable {α β γ : Type}
@[simp] theorem Res.bind_ret (r : Res α) : (r.bind fun x => .ok x) = r := by cases r <;> rfl
@[simp] theorem Res.bind_assoc (r : Res α) (f : α → Res β) (g : β → Res γ) : (r.bind f).bind g = r.bind fun x => (f x).bind g := by cases r <;> rfl
theorem mulR_of {i j : Int} (h : mulOk i j = true) : mulR i j = .ok (i * j) := if_pos h
theorem mulR_64 {i j : Int} (hi : i.natAbs < 18446744073709551616) (hj : j.natAbs < 18446744073709551616) : mulR i j = .ok (i * j) := mulR_of (mul64 hi hj)
theorem modR_pos {i j : Int} (h : 0 < j) : modR i j = .ok (i % j) := if_pos h
theorem divR_pos {i j : Int} (h : 0 < j) (h9 : j.natAbs < Lim) : divR i j = .ok (i / j) := if_pos ⟨h, log2_lt h9 (by decide)⟩
theorem divR_64 {i j : Int} (h : 0 < j) (h9 : j < 18446744073709551616) : divR i j = .ok (i / j) := divR_pos h (lt_lim (by omega))
theorem powR_of {i j r : Int} (h : powOk i j = true) (hr : i ^ j.toNat = r) : powR i j = .ok r := by rw [← hr]; exact if_pos h
theorem powR_18 : powR 10 18 = .ok 1000000000000000000 := powR_of (stuck_iff.mpr (by omega)) (by decide +kernel)
theorem ixR_nat {xs : List α} {i : Nat} {x : α} (h : xs[i]? = some x) : ixR xs (i : Int) = .ok x := by unfold ixR; rw [atI_nat h]
theorem ixR_of {xs : List α} {i : Int} {x : α} (h0 : 0 ≤ i) (h : xs[i.toNat]? = some x) : ixR xs i = .ok x := by
  have := ixR_nat h
  rwa [show ((i.toNat : Nat) : Int) = i by omega] at this
theorem ixR_D {xs : List α} {i : Int} (d : α) (h0 : 0 ≤ i) (h : i < xs.length) : ixR xs i = .ok (xs.getD i.toNat d) := by
  refine ixR_of h0 ?_
  rw [List.getD_eq_getElem?_getD, List.getElem?_eq_getElem (by omega)]
  rfl
theorem appR_ok {xs : List α} {x : α} (h : xs.length < 1000000) : appR xs x = .ok (xs ++ [x]) := if_pos (szOk_yes h)
theorem catR_ok {xs ys : List α} (h : xs.length + ys.length ≤ 1000000) : catR xs ys = .ok (xs ++ ys) := if_pos (szOk_yes h)
theorem repR_ok {xs : List α} {k : Int} (h : k < 9223372036854775808 ∧ -9223372036854775808 ≤ k) (h2 : xs.length * k.toNat ≤ 1000000) : repR xs k = .ok (List.replicate k.toNat xs).flatten := if_pos (stuck_iff.mpr ⟨by omega, szOk_yes h2⟩)
theorem setR_nat {xs : List α} {i : Nat} {x : α} (h : i < xs.length) : setR xs (i : Int) x = .ok (xs.set i x) := by
  unfold setR
  rw [show ixN xs.length (i : Int) = some i by unfold ixN; rw [if_pos (by omega), if_pos (by omega)]; simp]
theorem setR_of {xs : List α} {i : Int} {x : α} (h0 : 0 ≤ i) (h : i < xs.length) : setR xs i x = .ok (xs.set i.toNat x) := by
  have := setR_nat (xs := xs) (x := x) (i := i.toNat) (by omega)
  rwa [show ((i.toNat : Nat) : Int) = i by omega] at this
theorem popR_of {xs : List α} {i : Int} (h0 : 0 ≤ i) (h : i < xs.length) (hz : xs.length ≤ 1000000) : popR xs i = .ok (xs[i.toNat]'(by omega), xs.eraseIdx i.toNat) := by
  unfold popR
  rw [show ixN xs.length i = some i.toNat by unfold ixN; rw [if_pos h0, if_pos h]]
  simp only [List.getElem?_eq_getElem (show i.toNat < xs.length by omega), szOk_yes hz, if_true]
theorem rngI_upto {n : Nat} : rngI 0 n = upto n := by
  unfold rngI upto
  exact List.map_congr_left fun i _ => Int.zero_add _
theorem rngR_ok {j : Int} (h0 : 0 ≤ j) (h : j < 4611686018427387904) : rngR j = .ok (upto j.toNat) := by
  unfold rngR
  rw [if_pos (show rngOk 0 j = true from stuck_iff.mpr (by omega)), rngI_upto]
theorem rngR_nat {n : Nat} (h : n < 4611686018427387904) : rngR (n : Int) = .ok (upto n) := by rw [rngR_ok (by omega) (by omega)]; simp
theorem rngLR_ok {j : Int} (h0 : 0 ≤ j) (h : j ≤ 1000000) : rngLR j = .ok (upto j.toNat) := by
  unfold rngLR
  rw [if_pos (show rgnOk 0 j = true from stuck_iff.mpr ⟨stuck_iff.mpr (by omega), by omega⟩), rngI_upto]
theorem upto_get {n i : Nat} {x : Int} (h : (upto n)[i]? = some x) : x = (i : Int) ∧ i < n := by
  unfold upto at h
  rw [List.getElem?_map] at h
  cases e : (List.range n)[i]? with
  | none => rw [e] at h; cases h
  | some j =>
    rw [e] at h
    have hi := (List.getElem?_eq_some_iff.mp e).1
    rw [List.length_range] at hi
    rw [List.getElem?_range hi] at e
    cases e; cases h
    exact ⟨rfl, hi⟩
@[simp] theorem rngI_length {lo : Int} {n : Nat} : (rngI lo n).length = n := by unfold rngI; rw [List.length_map, List.length_range]
/-- a loop over 0 .. n - 1 -/
theorem forR_upto {σ : Type} {f : σ → Int → Res σ} {n : Nat} {s : σ} (P : Nat → σ → Prop) (h0 : P 0 s) (hs : ∀ (i : Nat) s, i < n → P i s → ∃ s', f s (i : Int) = .ok s' ∧ P (i + 1) s') : ∃ s', forR f (upto n) s = .ok s' ∧ P n s' := by
  obtain ⟨s', e, p⟩ := forR_inv (xs := upto n) (f := f) (s := s) P h0 (fun i x s hx p => by
    obtain ⟨rfl, hi⟩ := upto_get hx
    exact hs i s hi p)
  rw [upto_length] at p
  exact ⟨s', e, p⟩
theorem forC_upto {σ τ : Type} {f : σ → Int → Res (Ctl σ τ)} {n : Nat} {s : σ} (Q : Ctl σ τ → Prop) (P : Nat → σ → Prop) (h0 : P 0 s) (hs : ∀ (i : Nat) s, i < n → P i s → ∃ o, f s (i : Int) = .ok o ∧ (match o with
    | .go s' => P (i + 1) s'
    | .out s' => Q (.go s')
    | .ret b => Q (.ret b))) (hd : ∀ s, P n s → Q (.go s)) : ∃ o, forC f (upto n) s = .ok o ∧ Q o :=
  forC_inv Q P h0 (fun i x s hx p => by
    obtain ⟨rfl, hi⟩ := upto_get hx
    exact hs i s hi p) (fun s p => hd s (by rw [upto_length] at p; exact p))
@[simp] theorem forC_nil {α σ τ : Type} {f : σ → α → Res (Ctl σ τ)} {s : σ} : forC f [] s = .ok (.go s) := rfl
theorem forC_cons {α σ τ : Type} {f : σ → α → Res (Ctl σ τ)} {x : α} {xs : List α} {s : σ} : forC f (x :: xs) s = (f s x).bind fun o => match o with
    | .go s => forC f xs s
    | .out s => .ok (.go s)
    | .ret b => .ok (.ret b) := rfl
@[simp] theorem forR_nil {α σ : Type} {f : σ → α → Res σ} {s : σ} : forR f [] s = .ok s := rfl
@[simp] theorem forR_cons {α σ : Type} {f : σ → α → Res σ} {x : α} {xs : List α} {s : σ} : forR f (x :: xs) s = (f s x).bind fun s => forR f xs s := rfl
@[simp] theorem ctlS_go {σ τ : Type} {s : σ} : ctlS (.go s : Ctl σ τ) = .ok s := rfl
@[simp] theorem ctlS_out {σ τ : Type} {s : σ} : ctlS (.out s : Ctl σ τ) = .ok s := rfl
@[simp] theorem ctlK_go {σ τ γ : Type} {k : σ → Res γ} {rk : τ → γ} {s : σ} : ctlK k rk (.go s) = k s := rfl
@[simp] theorem ctlK_ret {σ τ γ : Type} {k : σ → Res γ} {rk : τ → γ} {b : τ} : ctlK k rk (.ret b : Ctl σ τ) = .ok (rk b) := rfl
theorem whileC_inv {σ τ : Type} {c : σ → Res Bool} {f : σ → Res (Ctl σ τ)} (Q : Ctl σ τ → Prop) (P : σ → Prop) (μ : σ → Nat) (hs : ∀ s, P s → ∃ b, c s = .ok b ∧ (b = false → Q (.go s)) ∧ (b = true → ∃ o, f s = .ok o ∧ (match o with
    | .go s' => P s' ∧ μ s' < μ s
    | .out s' => Q (.go s')
    | .ret b => Q (.ret b)))) : ∀ (n : Nat) (s : σ), P s → μ s < n → ∃ o, whileC c f n s = .ok o ∧ Q o
  | 0, s, _, h => absurd h (Nat.not_lt_zero _)
  | n + 1, s, p, hn => by
    obtain ⟨b, e, h1, h2⟩ := hs s p
    unfold whileC
    rw [e]
    cases b with
    | false => exact ⟨.go s, rfl, h1 rfl⟩
    | true =>
      obtain ⟨o, e2, q⟩ := h2 rfl
      dsimp only [Res.bind_ok]
      rw [if_pos rfl, e2]
      cases o with
      | go s' => exact whileC_inv Q P μ hs n s' q.1 (by have := q.2; omega)
      | out s' => exact ⟨.go s', rfl, q⟩
      | ret b => exact ⟨.ret b, rfl, q⟩
theorem lcR_mapM {α β : Type} {xs : List α} {f : α → Res β} (P : α → β → Prop) (hz : xs.length ≤ 1000000) (h : ∀ x ∈ xs, ∃ y, f x = .ok y ∧ P x y) : ∃ ys, lcR xs (fun _ => .ok true) f = .ok ys ∧ ys.length = xs.length ∧ ∀ (i : Nat) x, xs[i]? = some x → ∃ y, ys[i]? = some y ∧ P x y := by
  unfold lcR
  rw [if_pos (szOk_yes hz)]
  clear hz
  induction xs with
  | nil => exact ⟨[], rfl, rfl, fun i x hx => by simp at hx⟩
  | cons x xs ih =>
    obtain ⟨y, e, p⟩ := h x List.mem_cons_self
    obtain ⟨ys, e2, hl, hp⟩ := ih fun y hy => h y (List.mem_cons_of_mem _ hy)
    refine ⟨y :: ys, ?_, by rw [List.length_cons, List.length_cons, hl], fun i z hz => ?_⟩
    · unfold lcR.go
      rw [e, e2]
      rfl
    · cases i with
      | zero => cases hz; exact ⟨y, rfl, p⟩
      | succ i => exact hp i z (by simpa using hz)
theorem enumI_eq : ∀ (xs : List α) (i : Nat), enumI i xs = (xs.zipIdx i).map fun p => ((p.2 : Int), p.1)
  | [], _ => rfl
  | x :: xs, i => by
    show ((i : Int), x) :: enumI (i + 1) xs = _
    rw [enumI_eq, List.zipIdx_cons]
    rfl
theorem enumI_length {xs : List α} {i : Nat} : (enumI i xs).length = xs.length := by rw [enumI_eq, List.length_map, List.length_zipIdx]
theorem enumI_at {xs : List α} {i j : Nat} {p : Int × α} (h : (enumI i xs)[j]? = some p) : p.1 = ((i + j : Nat) : Int) ∧ xs[j]? = some p.2 := by
  rw [enumI_eq, List.getElem?_map, List.getElem?_zipIdx] at h
  cases e : xs[j]? with
  | none => rw [e] at h; cases h
  | some x => rw [e] at h; cases h; exact ⟨rfl, rfl⟩
end
end Da
namespace Da
open PySem PySem.Spec L2
end Da
namespace Da
open PySem PySem.Spec L2
def Tr {α : Type} (r : Res α) (Q : α → Prop) : Prop := ∃ v, r = .ok v ∧ Q v
section
variable {α β γ σ τ : Type} {r : Res α} {Q : α → Prop} {f : α → Res β} {v : α} {R : β → Prop}
theorem Tr.of (h : r = .ok v) (q : Q v) : Tr r Q := ⟨v, h, q⟩
theorem Tr.eq {r : Res α} {v : α} (h : Tr r fun x => x = v) : r = .ok v := by obtain ⟨x, e, rfl⟩ := h; exact e
theorem Tr.ok (q : Q v) : Tr (.ok v) Q := ⟨v, rfl, q⟩
theorem Tr.imp {Q' : α → Prop} (h : Tr r Q) (k : ∀ v, Q v → Q' v) : Tr r Q' := by obtain ⟨v, e, q⟩ := h; exact ⟨v, e, k v q⟩
theorem Tr.bind (h : Tr r Q) (k : ∀ v, Q v → Tr (f v) R) : Tr (r.bind f) R := by
  obtain ⟨v, e, q⟩ := h
  rw [e]
  exact k v q
/-- a step whose outcome is known -/
theorem Tr.st (h : r = .ok v) (k : Tr (f v) R) : Tr (r.bind f) R := by rw [h]; exact k
theorem Tr.nx (h : Tr r Q) : Tr (nx r) Q := by obtain ⟨v, e, q⟩ := h; rw [e]; exact ⟨v, rfl, q⟩
theorem Tr.ite {b : Bool} {r1 r2 : Res α} (h1 : b = true → Tr r1 Q) (h2 : b = false → Tr r2 Q) : Tr (if b = true then r1 else r2) Q := by
  cases b with
  | true => exact h1 rfl
  | false => exact h2 rfl
theorem Tr.itT {b : Bool} {r1 r2 : Res α} (hb : b = true) (h1 : Tr r1 Q) : Tr (if b = true then r1 else r2) Q := by rw [if_pos hb]; exact h1
theorem Tr.itF {b : Bool} {r1 r2 : Res α} (hb : b = false) (h1 : Tr r2 Q) : Tr (if b = true then r1 else r2) Q := by rw [if_neg (by rw [hb]; exact Bool.false_ne_true)]; exact h1
theorem tr_forR {f : σ → α → Res σ} {xs : List α} {s : σ} {Q : σ → Prop} (P : Nat → σ → Prop) (h0 : P 0 s) (hs : ∀ i x s, xs[i]? = some x → P i s → Tr (f s x) (P (i + 1))) (hd : ∀ s, P xs.length s → Q s) : Tr (forR f xs s) Q := by
  obtain ⟨s', e, p⟩ := forR_inv P h0 fun i x s hx p => hs i x s hx p
  exact ⟨s', e, hd s' p⟩
theorem tr_forRn {f : σ → Int → Res σ} {n : Nat} {s : σ} {Q : σ → Prop} (P : Nat → σ → Prop) (h0 : P 0 s) (hs : ∀ (i : Nat) s, i < n → P i s → Tr (f s (i : Int)) (P (i + 1))) (hd : ∀ s, P n s → Q s) : Tr (forR f (upto n) s) Q := by
  obtain ⟨s', e, p⟩ := forR_upto P h0 fun i s hi p => hs i s hi p
  exact ⟨s', e, hd s' p⟩
theorem tr_forC {f : σ → α → Res (Ctl σ τ)} {xs : List α} {s : σ} {Q : Ctl σ τ → Prop} (P : Nat → σ → Prop) (h0 : P 0 s) (hs : ∀ i x s, xs[i]? = some x → P i s → Tr (f s x) (fun o => match o with
    | .go s' => P (i + 1) s'
    | .out s' => Q (.go s')
    | .ret b => Q (.ret b))) (hd : ∀ s, P xs.length s → Q (.go s)) : Tr (forC f xs s) Q := forC_inv Q P h0 (fun i x s hx p => hs i x s hx p) hd
theorem tr_forCn {f : σ → Int → Res (Ctl σ τ)} {n : Nat} {s : σ} {Q : Ctl σ τ → Prop} (P : Nat → σ → Prop) (h0 : P 0 s) (hs : ∀ (i : Nat) s, i < n → P i s → Tr (f s (i : Int)) (fun o => match o with
    | .go s' => P (i + 1) s'
    | .out s' => Q (.go s')
    | .ret b => Q (.ret b))) (hd : ∀ s, P n s → Q (.go s)) : Tr (forC f (upto n) s) Q := forC_upto Q P h0 (fun i s hi p => hs i s hi p) hd
/-- a search, and what comes behind it -/
theorem tr_find {f : Unit → α → Res (Ctl Unit τ)} {xs : List α} {k : Unit → Res γ} {rk : τ → γ} {Q : γ → Prop} (P : α → Prop) (R : τ → Prop) (h : ∀ x ∈ xs, Tr (f () x) fun o => (o = .go () ∧ P x) ∨ ∃ b, o = .ret b ∧ R b)
    (h1 : (∀ x ∈ xs, P x) → Tr (k ()) Q) (h2 : ∀ b, R b → Q (rk b)) : Tr ((forC f xs ()).bind (ctlK k rk)) Q := by
  induction xs with
  | nil => exact h1 fun x hx => nomatch hx
  | cons x xs ih =>
    rw [forC_cons, Res.bind_assoc]
    obtain ⟨o, e, p⟩ := h x List.mem_cons_self
    rw [e]
    rcases p with ⟨rfl, p⟩ | ⟨b, rfl, r⟩
    · exact ih (fun y hy => h y (List.mem_cons_of_mem _ hy)) fun hp => h1 fun y hy => by
        rcases List.mem_cons.mp hy with rfl | hy
        · exact p
        · exact hp y hy
    · exact ⟨_, rfl, h2 b r⟩
/-- all turns go on -/
theorem tr_all {f : Unit → α → Res (Ctl Unit τ)} {xs : List α} {k : Unit → Res γ} {rk : τ → γ} {Q : γ → Prop} (h : ∀ x ∈ xs, Tr (f () x) fun o => o = .go ()) (h1 : Tr (k ()) Q) : Tr ((forC f xs ()).bind (ctlK k rk)) Q :=
  tr_find (fun _ => True) (fun _ => False) (fun x hx => (h x hx).imp fun o e => .inl ⟨e, trivial⟩) (fun _ => h1) fun b h => h.elim
theorem lcR_mapp {f : α → Res β} {k : γ → α} {xs : List γ} (g : γ → β) (hz : xs.length ≤ 1000000) (h : ∀ x ∈ xs, f (k x) = .ok (g x)) : lcR (xs.map k) (fun _ => .ok true) f = .ok (xs.map g) := by
  unfold lcR
  rw [if_pos (szOk_yes (by rw [List.length_map]; exact hz))]
  clear hz
  induction xs with
  | nil => rfl
  | cons x xs ih =>
    rw [List.map_cons]
    unfold lcR.go
    rw [h x List.mem_cons_self, ih fun y hy => h y (List.mem_cons_of_mem _ hy)]
    rfl
theorem tr_lcf {c : α → Res Bool} {f : α → Res β} {xs : List α} {Q : List β → Prop} (p : α → Bool) (g : α → β) (hz : xs.length ≤ 1000000) (hc : ∀ x ∈ xs, Tr (c x) fun b => b = p x) (h : ∀ x ∈ xs, p x = true → Tr (f x) fun y => y = g x) (hq : Q ((xs.filter p).map g)) : Tr (lcR xs c f) Q := ⟨_, lcR_filter hz (fun x hx => (hc x hx).eq) fun x hx px => (h x hx px).eq, hq⟩
theorem tr_lcm {f : α → Res β} {xs : List α} {Q : List β → Prop} (P : α → β → Prop) (hz : xs.length ≤ 1000000) (h : ∀ x ∈ xs, Tr (f x) (P x)) (hq : ∀ ys : List β, ys.length = xs.length → (∀ (i : Nat) x, xs[i]? = some x → ∃ y, ys[i]? = some y ∧ P x y) → Q ys) : Tr (lcR xs (fun _ => .ok true) f) Q := by
  obtain ⟨ys, e, hl, hp⟩ := lcR_mapM P hz h
  exact ⟨ys, e, hq ys hl hp⟩
end
end Da
namespace Kx
open PySem PySem.Spec L2 Da
/-- the owner of goal g; the row of sender u; a number below n -/
def ow (O : List (Option Int)) (g : Int) : Option Int := O.getD g.toNat none
def rowOf (R : List (List Int)) (u : Int) : List Int := R.getD u.toNat []
def Gn (n : Nat) (g : Int) : Prop := 0 ≤ g ∧ g < n
structure RowsG (n : Nat) (R : List (List Int)) : Prop where
  len : R.length = n
  mem : ∀ r ∈ R, ∀ v ∈ r, Gn n v
  small : n ≤ 63
variable {n : Nat} {R : List (List Int)} {O : List (Option Int)}
theorem row_mem (h : RowsG n R) {u v : Int} (hv : v ∈ rowOf R u) : Gn n v := by
  unfold rowOf at hv
  rw [List.getD_eq_getElem?_getD] at hv
  cases e : R[u.toNat]? with
  | none => rw [e] at hv; cases hv
  | some r =>
    rw [e] at hv
    exact h.mem r (List.mem_of_getElem? e) v hv
theorem ix_row (h : RowsG n R) {u : Int} (hu : Gn n u) : ixR R u = .ok (rowOf R u) := ixR_D [] hu.1 (by rw [h.len]; exact hu.2)
theorem ix_ow (h : O.length = n) {g : Int} (hg : Gn n g) : ixR O g = .ok (ow O g) := ixR_D none hg.1 (by rw [h]; exact hg.2)
theorem ow_set (h : O.length = n) {g k : Int} {x : Option Int} (hg : Gn n g) (hk : Gn n k) : ow (O.set g.toNat x) k = if k = g then x else ow O k := by
  unfold ow
  rw [List.getD_eq_getElem?_getD, List.getD_eq_getElem?_getD, List.getElem?_set]
  obtain ⟨g0, g1⟩ := hg
  obtain ⟨k0, k1⟩ := hk
  by_cases e : k = g
  · subst e
    rw [if_pos rfl, if_pos (by omega), if_pos rfl]
    rfl
  · rw [if_neg (by omega), if_neg e]
theorem set_len (h : O.length = n) (k : Nat) (x : Option Int) : (O.set k x).length = n := by rw [List.length_set, h]
theorem nd_le {xs : List Int} (nd : xs.Nodup) (h : ∀ x ∈ xs, Gn n x) : xs.length ≤ n := by
  have e : (xs.map Int.toNat).Nodup := List.pairwise_map.mpr (nd.imp_of_mem fun {x y} hx hy e z => e (by
    have := h x hx
    have := h y hy
    unfold Gn at *
    omega))
  have := List.Nodup.length_le_of_subset e (l₂ := List.range n) fun k hk => by
    obtain ⟨x, hx, rfl⟩ := List.mem_map.mp hk
    have := h x hx
    unfold Gn at this
    rw [List.mem_range]
    omega
  simpa using this
structure Mt (n : Nat) (R : List (List Int)) (O : List (Option Int)) : Prop where
  len : O.length = n
  edge : ∀ g u, Gn n g → ow O g = some u → Gn n u ∧ g ∈ rowOf R u
  inj : ∀ g k u, Gn n g → Gn n k → ow O g = some u → ow O k = some u → g = k
def Md1 (n : Nat) (O : List (Option Int)) (u : Int) : Prop := ∃ g, Gn n g ∧ ow O g = some u
/-- keys of a dict -/
def ky (C : List (Int × Option Int)) : List Int := C.map fun p => p.1
theorem dlook_not {κ α : Type} [DecidableEq κ] : ∀ {C : List (κ × α)} {k : κ}, k ∉ C.map (fun p => p.1) → dlookN C k = none
  | [], k, _ => rfl
  | p :: C, k, h => by
    rw [List.map_cons, List.mem_cons, not_or] at h
    unfold dlookN
    rw [if_neg fun z => h.1 z.symm]
    exact dlook_not h.2
theorem dlook_at {κ α : Type} [DecidableEq κ] : ∀ {C : List (κ × α)} {i : Nat} {p : κ × α}, (C.map fun p => p.1).Nodup → C[i]? = some p → dlookN C p.1 = some p.2
  | [], i, p, _, h => by cases h
  | q :: C, i, p, nd, h => by
    rw [List.map_cons, List.nodup_cons] at nd
    unfold dlookN
    cases i with
    | zero =>
      rw [List.getElem?_cons_zero] at h
      cases h
      rw [if_pos rfl]
    | succ i =>
      rw [List.getElem?_cons_succ] at h
      rw [if_neg fun z => nd.1 (by rw [z]; exact List.mem_map.mpr ⟨p, List.mem_of_getElem? h, rfl⟩)]
      exact dlook_at nd.2 h
theorem dhas_iff {κ α : Type} [DecidableEq κ] : ∀ {C : List (κ × α)} {k : κ}, dhasN C k = true ↔ k ∈ C.map fun p => p.1
  | [], k => by simp [dhasN, dlookN]
  | p :: C, k => by
    have ih := dhas_iff (C := C) (k := k)
    unfold dhasN at ih ⊢
    unfold dlookN
    rw [List.map_cons, List.mem_cons]
    by_cases e : p.1 = k
    · rw [if_pos e]
      simp [e]
    · rw [if_neg e, ih]
      simp [Ne.symm e]
theorem dput_new {κ α : Type} [DecidableEq κ] {C : List (κ × α)} {k : κ} {v : α} (h : k ∉ C.map fun p => p.1) : dputN C k v = C ++ [(k, v)] := by
  unfold dputN
  rw [if_neg]
  intro z
  obtain ⟨p, hp, e⟩ := List.any_eq_true.mp z
  exact h (List.mem_map.mpr ⟨p, hp, by simpa using e⟩)
theorem dputR_ok {κ α : Type} [DecidableEq κ] {C : List (κ × α)} {k : κ} {v : α} (h : C.length < 1000000) : dputR C k v = .ok (dputN C k v) := by
  unfold dputR
  rw [if_pos (szOk_yes (by omega))]
/-- a search under way: what it came to, and who waits -/
structure Cm (n : Nat) (R : List (List Int)) (O : List (Option Int)) (s : Int) (C : List (Int × Option Int)) (W : List (Option Int)) : Prop where
  nd : (ky C).Nodup
  rng : ∀ g ∈ ky C, Gn n g
  wl : W = some s :: (ky C).map (ow O)
  own : ∀ g ∈ ky C, ∃ w, ow O g = some w
  frm : ∀ (k : Nat) p, C[k]? = some p → ∃ (j : Nat) (w : Int), j ≤ k ∧ W[j]? = some (some w) ∧ p.2 = some w ∧ p.1 ∈ rowOf R w
section
variable {s : Int} {C : List (Int × Option Int)} {W : List (Option Int)}
theorem ky_snoc {g : Int} {x : Option Int} : ky (C ++ [(g, x)]) = ky C ++ [g] := by unfold ky; rw [List.map_append]; rfl
theorem Cm.wlen (h : Cm n R O s C W) : W.length = C.length + 1 := by rw [h.wl]; unfold ky; simp
theorem Cm.clen (h : Cm n R O s C W) : C.length ≤ n := by
  have := nd_le h.nd h.rng
  unfold ky at this
  simpa using this
theorem Cm.wat (hO : Mt n R O) (hs : Gn n s) (h : Cm n R O s C W) {j : Nat} (hj : j < W.length) : ∃ w, W[j]? = some (some w) ∧ Gn n w := by
  rw [h.wl]
  cases j with
  | zero => exact ⟨s, rfl, hs⟩
  | succ j =>
    have hl := h.wlen
    have hj' : j < (ky C).length := by unfold ky; simp; omega
    obtain ⟨w, e⟩ := h.own _ (List.getElem_mem hj')
    refine ⟨w, ?_, (hO.edge _ w (h.rng _ (List.getElem_mem hj')) e).1⟩
    rw [List.getElem?_cons_succ, List.getElem?_map, List.getElem?_eq_getElem hj']
    exact congrArg some e
theorem Cm.snoc (h : Cm n R O s C W) {g w u : Int} {j : Nat} (hg : Gn n g) (hn : g ∉ ky C) (hw : W[j]? = some (some w)) (hr : g ∈ rowOf R w) (ho : ow O g = some u) : Cm n R O s (C ++ [(g, some w)]) (W ++ [ow O g]) := by
  have hjl := (List.getElem?_eq_some_iff.mp hw).1
  have hwl := h.wlen
  refine ⟨?_, fun x hx => ?_, ?_, fun x hx => ?_, fun k p e => ?_⟩
  · rw [ky_snoc]
    refine List.nodup_append.mpr ⟨h.nd, by simp, fun a ha b hb => ?_⟩
    have : b = g := by simpa using hb
    subst this
    exact fun z => hn (z ▸ ha)
  · rw [ky_snoc] at hx
    rcases List.mem_append.mp hx with hx | hx
    · exact h.rng x hx
    · have : x = g := by simpa using hx
      subst this
      exact hg
  · rw [ky_snoc, List.map_append, h.wl]
    rfl
  · rw [ky_snoc] at hx
    rcases List.mem_append.mp hx with hx | hx
    · exact h.own x hx
    · have : x = g := by simpa using hx
      subst this
      exact ⟨u, ho⟩
  · by_cases hk : k < C.length
    · rw [List.getElem?_append_left hk] at e
      obtain ⟨i, w', h1, h2, h3, h4⟩ := h.frm k p e
      exact ⟨i, w', h1, by rw [List.getElem?_append_left (by omega)]; exact h2, h3, h4⟩
    · have hk2 : k = C.length := by
        have := (List.getElem?_eq_some_iff.mp e).1
        rw [List.length_append] at this
        simp at this
        omega
      subst hk2
      rw [List.getElem?_append_right (Nat.le_refl _)] at e
      simp at e
      subst e
      exact ⟨j, w, by omega, by rw [List.getElem?_append_left hjl]; exact hw, rfl, hr⟩
/-- what a search tells -/
def Told (n : Nat) (R : List (List Int)) (O : List (Option Int)) (s : Int) (r : List (Int × Option Int) × Option Int) : Prop :=
  (∃ C W, r = (C, none) ∧ Cm n R O s C W ∧ ∀ (j : Nat) w, W[j]? = some (some w) → ∀ g ∈ rowOf R w, g ∈ ky C) ∨
    ∃ C W g w, ∃ j : Nat, r = (C ++ [(g, some w)], some g) ∧ Cm n R O s C W ∧ W[j]? = some (some w) ∧ g ∈ rowOf R w ∧ Gn n g ∧ g ∉ ky C ∧ ow O g = none
theorem search_ok (hR : RowsG n R) (hO : Mt n R O) (hs : Gn n s) : Tr (N_search_tti_loi_i R O s) (Told n R O s) := by
  unfold N_search_tti_loi_i
  have hn := hR.small
  refine Tr.bind (Q := fun o => match o with
    | .go x => Told n R O s (x.1, none)
    | .out x => False
    | .ret r => Told n R O s r) ?_ fun o q => ?_
  · refine whileC_inv _ (fun x => Cm n R O s x.1 x.2.1 ∧ ∃ i : Nat, x.2.2 = (i : Int) ∧ i ≤ x.2.1.length ∧ ∀ (j : Nat) w, j < i → x.2.1[j]? = some (some w) → ∀ g ∈ rowOf R w, g ∈ ky x.1) (fun x => n + 1 - x.2.2.toNat) ?_ _ _ ?_ (by unfold FUEL; show n + 1 - (0 : Int).toNat < _; omega)
    · rintro ⟨C, W, a⟩ ⟨cm, i, ha, hi, hd⟩
      dsimp only at cm ha hi hd ⊢
      subst ha
      have hwl := cm.wlen
      have hcl := cm.clen
      refine ⟨_, rfl, fun hb => ?_, fun hb => ?_⟩
      · have : i = W.length := by
          have := of_decide_eq_false hb
          omega
        refine .inl ⟨C, W, rfl, cm, fun j w e => hd j w ?_ e⟩
        rw [this]
        exact (List.getElem?_eq_some_iff.mp e).1
      · have hil : i < W.length := by
          have := of_decide_eq_true hb
          omega
        obtain ⟨w, ew, hw⟩ := cm.wat hO hs hil
        rw [ixR_nat ew]
        dsimp only [Res.bind_ok, unO]
        rw [ix_row hR hw]
        dsimp only [Res.bind_ok]
        have key := tr_forC (f := fun (x5 : (List (Int × Option Int)) × List (Option Int)) (x6 : Int) => if (!dhasN x5.1 x6) = true then (dputR x5.1 x6 (some w)).bind fun x9 =>
            (((ixR O x6).bind fun x10 => (Res.ok (Option.isNone x10))).bind fun x13 => if x13 = true then Res.ok (.ret (x9, some x6)) else
            (((ixR O x6).bind fun x11 => appR x5.2 x11).bind fun x12 =>
            Res.ok (.go (x9, x12)))) else
            Res.ok (.go (x5.1, x5.2))) (xs := rowOf R w) (s := (C, W)) (Q := fun o => match o with
          | .go x => Cm n R O s x.1 x.2 ∧ (∃ D, x.2 = W ++ D) ∧ (∀ g ∈ ky C, g ∈ ky x.1) ∧ ∀ g ∈ rowOf R w, g ∈ ky x.1
          | .out x => False
          | .ret r => Told n R O s r) (fun k x => Cm n R O s x.1 x.2 ∧ (∃ D, x.2 = W ++ D) ∧ (∀ g ∈ ky C, g ∈ ky x.1) ∧ ∀ (j : Nat) g, j < k → (rowOf R w)[j]? = some g → g ∈ ky x.1) ⟨cm, ⟨[], by simp⟩, fun g h => h, fun j g h => by omega⟩ (fun k g x hg p => by
          obtain ⟨cx, ⟨D, hD⟩, hk, hdone⟩ := p
          obtain ⟨C1, W1⟩ := x
          dsimp only at cx hD hk hdone ⊢
          subst hD
          have hgn := row_mem hR (List.mem_of_getElem? hg)
          have hc1 := cx.clen
          have hw1 : (W ++ D)[i]? = some (some w) := by rw [List.getElem?_append_left hil]; exact ew
          by_cases hin : g ∈ ky C1
          · rw [if_neg (by rw [dhas_iff.mpr hin]; decide)]
            refine Tr.ok ⟨cx, ⟨D, rfl⟩, hk, fun j g' hj e => ?_⟩
            by_cases hjk : j = k
            · subst hjk
              rw [hg] at e
              cases e
              exact hin
            · exact hdone j g' (by omega) e
          · rw [if_pos (by rw [Bool.not_eq_true', Bool.eq_false_iff]; exact fun z => hin (dhas_iff.mp z))]
            rw [dputR_ok (by omega), dput_new hin]
            dsimp only [Res.bind_ok]
            rw [ix_ow hO.len hgn]
            dsimp only [Res.bind_ok]
            cases eo : ow O g with
            | none =>
              refine Tr.itT rfl ?_
              exact Tr.ok (.inr ⟨C1, W ++ D, g, w, i, rfl, cx, hw1, List.mem_of_getElem? hg, hgn, hin, eo⟩)
            | some u =>
              refine Tr.itF rfl ?_
              rw [appR_ok (by have := cx.wlen; omega)]
              have sn := cx.snoc hgn hin hw1 (List.mem_of_getElem? hg) eo
              rw [eo] at sn
              refine Tr.ok ⟨sn, ⟨D ++ [some u], by rw [List.append_assoc]⟩, fun x hx => ?_, fun j g' hj e => ?_⟩
              · rw [ky_snoc]
                exact List.mem_append_left _ (hk x hx)
              · rw [ky_snoc]
                by_cases hjk : j = k
                · subst hjk
                  rw [hg] at e
                  cases e
                  exact List.mem_append_right _ (by simp)
                · exact List.mem_append_left _ (hdone j g' (by omega) e)) fun x p => ⟨p.1, p.2.1, p.2.2.1, fun g hg => by
            obtain ⟨j, hj⟩ := List.mem_iff_getElem?.mp hg
            exact p.2.2.2 j g (List.getElem?_eq_some_iff.mp hj).1 hj⟩
        obtain ⟨o, e, q⟩ := key
        rw [e]
        cases o with
        | out x => exact q.elim
        | ret r => exact ⟨_, rfl, q⟩
        | go x =>
          obtain ⟨cx, ⟨D, hD⟩, hk, hdone⟩ := q
          obtain ⟨C1, W1⟩ := x
          dsimp only at cx hD hk hdone
          subst hD
          have hl2 := cx.wlen
          have hl3 := cx.clen
          refine ⟨_, rfl, ⟨cx, i + 1, by simp, by rw [List.length_append]; omega, fun j u hj ej => ?_⟩, by simp; rw [List.length_append] at hl2; omega⟩
          dsimp only at ej ⊢
          by_cases hji : j = i
          · subst hji
            rw [List.getElem?_append_left hil, ew] at ej
            cases ej
            exact hdone
          · rw [List.getElem?_append_left (by omega)] at ej
            exact fun g hg => hk g (hd j u (by omega) ej g hg)
    · exact ⟨(⟨List.nodup_nil, (fun g h => nomatch h), rfl, (fun g h => nomatch h), (fun k p e => by cases e)⟩ : Cm n R O s [] [some s]), 0, rfl, Nat.zero_le _, fun j w hj => by omega⟩
  · cases o with
    | go x => exact Tr.ok q
    | out x => exact q.elim
    | ret r => exact Tr.ok q
end
end Kx
namespace Kx
open PySem PySem.Spec L2 Da
theorem dcR_inv {ι κ α : Type} [DecidableEq κ] {xs : List ι} {c : ι → Res Bool} {fk : ι → Res κ} {fv : ι → Res α} (P : Nat → List (κ × α) → Prop) (hz : xs.length ≤ 1000000) (h0 : P 0 [])
    (hs : ∀ i x acc, xs[i]? = some x → P i acc → (c x = .ok false ∧ P (i + 1) acc) ∨ (c x = .ok true ∧ ∃ k v, fk x = .ok k ∧ fv x = .ok v ∧ P (i + 1) (dputN acc k v))) : ∃ r, dcR xs c fk fv = .ok r ∧ P xs.length r := by
  unfold dcR
  rw [if_pos (szOk_yes hz)]
  have key : ∀ (ys : List ι) (i : Nat) acc, (∀ (j : Nat) x, ys[j]? = some x → xs[i + j]? = some x) → P i acc → ∃ r, dcR.go c fk fv ys acc = .ok r ∧ P (i + ys.length) r := by
    intro ys
    induction ys with
    | nil => exact fun i acc _ p => ⟨acc, rfl, p⟩
    | cons y ys ih =>
      intro i acc hx p
      have h1 := hs i y acc (by simpa using hx 0 y rfl) p
      have hx' : ∀ (j : Nat) x, ys[j]? = some x → xs[i + 1 + j]? = some x := fun j x e => by
        have := hx (j + 1) x (by simpa using e)
        rwa [show i + (j + 1) = i + 1 + j by omega] at this
      unfold dcR.go
      rcases h1 with ⟨e, p1⟩ | ⟨e, k, v, ek, ev, p1⟩
      · obtain ⟨r, er, pr⟩ := ih (i + 1) acc hx' p1
        refine ⟨r, ?_, by rw [List.length_cons, show i + (ys.length + 1) = i + 1 + ys.length by omega]; exact pr⟩
        rw [e]
        exact er
      · obtain ⟨r, er, pr⟩ := ih (i + 1) _ hx' p1
        refine ⟨r, ?_, by rw [List.length_cons, show i + (ys.length + 1) = i + 1 + ys.length by omega]; exact pr⟩
        rw [e, ek, ev]
        exact er
  have := key xs 0 [] (fun j x e => by simpa using e) h0
  simpa using this
theorem nd_ix {α : Type} {xs : List α} {i j : Nat} {a : α} (nd : xs.Nodup) (h1 : xs[i]? = some a) (h2 : xs[j]? = some a) : i = j := by
  obtain ⟨l1, e1⟩ := List.getElem?_eq_some_iff.mp h1
  obtain ⟨l2, e2⟩ := List.getElem?_eq_some_iff.mp h2
  have key := List.pairwise_iff_getElem.mp nd
  rcases Nat.lt_trichotomy i j with h | h | h
  · exact absurd (e1.trans e2.symm) (key i j l1 l2 h)
  · exact h
  · exact absurd (e2.trans e1.symm) (key j i l2 l1 h)
theorem dlook_snoc {κ α : Type} [DecidableEq κ] : ∀ {C : List (κ × α)} {k j : κ} {v : α}, k ∉ (C.map fun p => p.1) → dlookN (C ++ [(k, v)]) j = if k = j then some v else dlookN C j
  | [], k, j, v, _ => rfl
  | p :: C, k, j, v, h => by
    rw [List.map_cons, List.mem_cons, not_or] at h
    rw [List.cons_append]
    unfold dlookN
    by_cases e : p.1 = j
    · rw [if_pos e, if_neg fun z => h.1 (z.trans e.symm), if_pos e]
    · rw [if_neg e, if_neg e, dlook_snoc h.2]
theorem dlook_new {κ α : Type} [DecidableEq κ] : ∀ {C : List (κ × α)} {k j : κ} {v : α}, dlookN (dputN C k v) j = if k = j then some v else dlookN C j := by
  intro C k j v
  by_cases h : k ∈ C.map fun p => p.1
  · unfold dputN
    rw [if_pos (by
      obtain ⟨p, hp, e⟩ := List.mem_map.mp h
      exact List.any_eq_true.mpr ⟨p, hp, by simpa using e⟩)]
    induction C with
    | nil => cases h
    | cons p C ih =>
      rw [List.map_cons]
      unfold dlookN
      by_cases e : p.1 = k
      · rw [if_pos e]
        dsimp only
        by_cases e2 : k = j
        · rw [if_pos (e.trans e2), if_pos e2]
        · rw [if_neg fun z => e2 (e.symm.trans z), if_neg e2, if_neg fun z => e2 (e.symm.trans z)]
          by_cases m : k ∈ C.map fun p => p.1
          · rw [ih m, if_neg e2]
          · congr 1
            rw [List.map_congr_left (g := id), List.map_id]
            intro q hq
            rw [if_neg fun z => m (List.mem_map.mpr ⟨q, hq, z⟩)]
            rfl
      · rw [if_neg e]
        by_cases e2 : p.1 = j
        · rw [if_pos e2, if_neg fun z => e (e2.trans z.symm), if_pos e2]
        · rw [if_neg e2, if_neg e2]
          rw [List.map_cons, List.mem_cons] at h
          exact ih (h.resolve_left fun z => e z.symm)
  · rw [dput_new h]
    exact dlook_snoc h
theorem dgetN_ok {κ α : Type} [DecidableEq κ] {C : List (κ × α)} {k : κ} {v : α} (h : dlookN C k = some v) : dgetN C k = .ok v := by
  unfold dgetN
  rw [h]
variable {n : Nat} {R : List (List Int)} {O : List (Option Int)}
theorem enum_ow {O : List (Option Int)} {i : Nat} {p : Int × Option Int} (hO : O.length = n) (h : (enumI 0 O)[i]? = some p) : p.1 = (i : Int) ∧ p.2 = ow O (i : Int) ∧ i < n := by
  obtain ⟨h1, h2⟩ := enumI_at h
  refine ⟨by simpa using h1, ?_, by rw [← hO]; exact (List.getElem?_eq_some_iff.mp h2).1⟩
  unfold ow
  rw [List.getD_eq_getElem?_getD, show (i : Int).toNat = i by omega, h2]
  rfl
theorem owners_dict (hO : Mt n R O) (hn : n ≤ 63) : ∃ G, dcR (enumI 0 O) (fun x1 => Res.ok (!(Option.isNone x1.2))) (fun x1 => (unO x1.2)) (fun x1 => (Res.ok x1.1)) = .ok G ∧ ∀ g u, Gn n g → ow O g = some u → dlookN G u = some g := by
  obtain ⟨G, e, p⟩ := dcR_inv (xs := enumI 0 O) (c := fun x1 => Res.ok (!(Option.isNone x1.2))) (fk := fun x1 => (unO x1.2)) (fv := fun x1 => (Res.ok x1.1)) (fun i G => ∀ g u, Gn n g → g < i → ow O g = some u → dlookN G u = some g) (by rw [enumI_length, hO.len]; omega) (fun g u h0 h1 => by unfold Gn at h0; omega) (fun i x acc hx p => by
    obtain ⟨h1, h2, h3⟩ := enum_ow hO.len hx
    rw [h2, h1]
    cases eo : ow O (i : Int) with
    | none =>
      refine .inl ⟨rfl, fun g u hg hl e => ?_⟩
      by_cases hgi : g = (i : Int)
      · rw [hgi, eo] at e; cases e
      · exact p g u hg (by omega) e
    | some w =>
      refine .inr ⟨rfl, w, i, rfl, rfl, fun g u hg hl e => ?_⟩
      rw [dlook_new]
      by_cases hgi : g = (i : Int)
      · rw [hgi, eo] at e
        cases e
        rw [if_pos rfl, hgi]
      · rw [if_neg fun z => hgi (hO.inj g i u hg ⟨by omega, by omega⟩ e (by rw [eo, z])) ]
        exact p g u hg (by omega) e)
  refine ⟨G, e, fun g u hg eo => p g u hg ?_ eo⟩
  rw [enumI_length, hO.len]
  exact hg.2
/-- the way of a search: each goal but the first ones is reached from the owner of an earlier one -/
def Way (n : Nat) (R : List (List Int)) (O : List (Option Int)) (s : Int) (C : List (Int × Option Int)) : Prop :=
  (ky C).Nodup ∧ ∀ (k : Nat) p, C[k]? = some p → Gn n p.1 ∧ ∃ w, p.2 = some w ∧ Gn n w ∧ p.1 ∈ rowOf R w ∧ (w = s ∨ ∃ (i : Nat) (q : Int × Option Int), i < k ∧ C[i]? = some q ∧ ow O q.1 = some w)
theorem way_of {s g w : Int} {C : List (Int × Option Int)} {W : List (Option Int)} {j : Nat} (hO : Mt n R O) (hs : Gn n s) (h : Cm n R O s C W) (ew : W[j]? = some (some w)) (hr : g ∈ rowOf R w) (hg : Gn n g) (hn : g ∉ ky C) : Way n R O s (C ++ [(g, some w)]) := by
  have src : ∀ {j k : Nat} {w : Int}, j ≤ k → W[j]? = some (some w) → Gn n w ∧ (w = s ∨ ∃ (i : Nat) (q : Int × Option Int), i < k ∧ C[i]? = some q ∧ ow O q.1 = some w) := by
    intro j k w hj e
    obtain ⟨w', e', hw'⟩ := h.wat hO hs (List.getElem?_eq_some_iff.mp e).1
    rw [e] at e'
    cases e'
    refine ⟨hw', ?_⟩
    rw [h.wl] at e
    cases j with
    | zero => cases e; exact .inl rfl
    | succ j =>
      rw [List.getElem?_cons_succ, List.getElem?_map] at e
      cases eq : (ky C)[j]? with
      | none => rw [eq] at e; cases e
      | some g =>
        rw [eq] at e
        unfold ky at eq
        rw [List.getElem?_map] at eq
        cases ec : C[j]? with
        | none => rw [ec] at eq; cases eq
        | some q =>
          rw [ec] at eq
          cases eq
          refine .inr ⟨j, q, by omega, ec, ?_⟩
          simpa using e
  refine ⟨?_, fun k p e => ?_⟩
  · rw [ky_snoc]
    refine List.nodup_append.mpr ⟨h.nd, by simp, fun a ha b hb => ?_⟩
    have : b = g := by simpa using hb
    subst this
    exact fun z => hn (z ▸ ha)
  · by_cases hk : k < C.length
    · rw [List.getElem?_append_left hk] at e
      obtain ⟨i, u, h1, h2, h3, h4⟩ := h.frm k p e
      obtain ⟨a, b⟩ := src h1 h2
      refine ⟨h.rng _ (List.mem_map.mpr ⟨p, List.mem_of_getElem? e, rfl⟩), u, h3, a, h4, b.imp id fun ⟨i', q, c1, c2, c3⟩ => ⟨i', q, c1, by rw [List.getElem?_append_left (by omega)]; exact c2, c3⟩⟩
    · have hk2 : k = C.length := by
        have := (List.getElem?_eq_some_iff.mp e).1
        rw [List.length_append] at this
        simp at this
        omega
      subst hk2
      rw [List.getElem?_append_right (Nat.le_refl _)] at e
      simp at e
      subst e
      have hjl := (List.getElem?_eq_some_iff.mp ew).1
      obtain ⟨a, b⟩ := src (k := C.length) (by have := h.wlen; omega) ew
      exact ⟨hg, w, rfl, a, hr, b.imp id fun ⟨i', q, c1, c2, c3⟩ => ⟨i', q, c1, by rw [List.getElem?_append_left (by omega)]; exact c2, c3⟩⟩
/-- a set of goals that no way leaves: each is owned, the owner's row within -/
def Shut (n : Nat) (R : List (List Int)) (O : List (Option Int)) (Z : Int → Prop) : Prop := ∀ g, Gn n g → Z g → ∃ u, ow O g = some u ∧ ∀ k ∈ rowOf R u, Z k
theorem changed_ok {s e : Int} {C : List (Int × Option Int)} {Z : Int → Prop} {m : Nat} {pe : Option Int} (hn : n ≤ 63) (hO : Mt n R O) (hs : Gn n s) (hns : ¬ Md1 n O s) (hw : Way n R O s C) (he : C[m]? = some (e, pe)) (hfree : ow O e = none) (hZ : Shut n R O Z) :
    Tr (N_changed_owners_loi_mioiq_i_i O C s e) fun O' => Mt n R O' ∧ (∀ u, Md1 n O' u ↔ Md1 n O u ∨ u = s) ∧ ∀ g, Gn n g → Z g → ow O' g = ow O g := by
  unfold N_changed_owners_loi_mioiq_i_i
  obtain ⟨G, eG, hG⟩ := owners_dict hO hn
  rw [eG]
  dsimp only [Res.bind_ok]
  rw [dgetN_ok (dlook_at hw.1 he)]
  dsimp only [Res.bind_ok]
  have hm : m < 64 := by
    have h1 := nd_le hw.1 fun g hg => by
      obtain ⟨p, hp, rfl⟩ := List.mem_map.mp hg
      obtain ⟨k, hk⟩ := List.mem_iff_getElem?.mp hp
      exact (hw.2 k p hk).1
    have h2 := (List.getElem?_eq_some_iff.mp he).1
    unfold ky at h1
    rw [List.length_map] at h1
    omega
  have hZe : ¬ Z e := fun z => by
    obtain ⟨u, h, _⟩ := hZ e (hw.2 m _ he).1 z
    rw [hfree] at h
    cases h
  -- what holds while the path is turned over
  let P : List (Option Int) × Int × Option Int → Nat → Prop := fun x k => C[k]? = some x.2 ∧ x.1.length = n ∧ (∀ g u, Gn n g → g ≠ x.2.1 → ow x.1 g = some u → Gn n u ∧ g ∈ rowOf R u) ∧
    (∀ g k u, Gn n g → Gn n k → g ≠ x.2.1 → k ≠ x.2.1 → ow x.1 g = some u → ow x.1 k = some u → g = k) ∧ (∀ u, (∃ g, Gn n g ∧ g ≠ x.2.1 ∧ ow x.1 g = some u) ↔ Md1 n O u) ∧ ¬ Z x.2.1 ∧ (∀ g, Gn n g → Z g → ow x.1 g = ow O g) ∧
    ∀ (i : Nat) q, i < k → C[i]? = some q → ow x.1 q.1 = ow O q.1
  have P0 : P (O, e, pe) m := ⟨he, hO.len, fun g u hg _ h => hO.edge g u hg h, fun g k u hg hk _ _ h1 h2 => hO.inj g k u hg hk h1 h2, fun u => ⟨fun ⟨g, h1, _, h2⟩ => ⟨g, h1, h2⟩, fun ⟨g, h1, h2⟩ => ⟨g, h1, (fun z => by
    have z : g = e := z
    rw [z, hfree] at h2
    cases h2), h2⟩⟩, hZe, fun _ _ _ => rfl, fun _ _ _ _ => rfl⟩
  refine Tr.bind (Q := fun x => ∃ k, P x k ∧ x.2.2 = some s) ?_ fun x ⟨k, px, hx⟩ => ?_
  · refine Tr.bind (Q := fun o => match o with
      | .go x => ∃ k, P x k ∧ x.2.2 = some s
      | .out x => ∃ k, P x k ∧ x.2.2 = some s
      | .ret _ => False) ?_ fun o q => by
        cases o with
        | go x => exact Tr.ok q
        | out x => exact Tr.ok q
        | ret _ => exact q.elim
    -- the number of turns: by the goal's place
    have key : ∀ (k : Nat) (x : List (Option Int) × Int × Option Int) (f : Nat), k < f → P x k → Tr (whileC (σ := ((List (Option Int)) × Int × (Option Int))) (β := Unit) (fun x4 => Res.ok (!eqB x4.2.2 (some s))) (fun x4 => ((setR x4.1 x4.2.1 x4.2.2).bind fun x6 =>
        (((unO x4.2.2).bind fun x7 => (dgetN G x7)).bind fun x8 =>
        ((dgetN C x8).bind fun x9 =>
        Res.ok (.go (x6, x8, x9)))))) f x) fun o => (match o with
      | .go x => ∃ k, P x k ∧ x.2.2 = some s
      | .out x => ∃ k, P x k ∧ x.2.2 = some s
      | .ret _ => False) := by
      intro k
      induction k using Nat.strongRecOn with
      | ind k ih =>
        rintro ⟨X, g, so⟩ f hf px
        obtain ⟨hc, hl, h1, h2, h3, h4, h5, h6⟩ := px
        dsimp only at hc hl h1 h2 h3 h4 h5 h6
        cases f with
        | zero => omega
        | succ f =>
          unfold whileC
          dsimp only [Res.bind_ok]
          obtain ⟨hg, w, rfl, hwn, hgr, hsrc⟩ := hw.2 k _ hc
          dsimp only at hg hgr hsrc
          by_cases hws : w = s
          · subst hws
            rw [if_neg (by simp [eqB])]
            exact Tr.ok ⟨k, ⟨hc, hl, h1, h2, h3, h4, h5, h6⟩, rfl⟩
          · rw [if_pos (by simp [eqB, hws])]
            obtain ⟨i, q, hik, hq, hqo⟩ := hsrc.resolve_left hws
            obtain ⟨hqn, _⟩ := hw.2 i q hq
            rw [setR_of hg.1 (by rw [hl]; exact hg.2)]
            dsimp only [Res.bind_ok, unO]
            rw [dgetN_ok (hG q.1 w hqn hqo)]
            dsimp only [Res.bind_ok]
            rw [dgetN_ok (dlook_at hw.1 hq)]
            dsimp only [Res.bind_ok]
            have hne : q.1 ≠ g := fun z => by
              have nd := hw.1
              unfold ky at nd
              have a1 : (C.map fun p => p.1)[i]? = some q.1 := by rw [List.getElem?_map, hq]; rfl
              have a2 : (C.map fun p => p.1)[k]? = some g := by rw [List.getElem?_map, hc]; rfl
              rw [z] at a1
              have := nd_ix nd a1 a2
              omega
            have set' : ∀ {a : Int}, Gn n a → ow (X.set g.toNat (some w)) a = if a = g then some w else ow X a := fun ha => ow_set hl hg ha
            have hqX : ow X q.1 = some w := (h6 i q hik hq).trans hqo
            refine ih i hik (X.set g.toNat (some w), q.1, q.2) f (by omega) ⟨hq, set_len hl _ _, ?_, ?_, ?_, ?_, ?_, ?_⟩
            · intro a u ha hna e
              rw [set' ha] at e
              by_cases hag : a = g
              · rw [if_pos hag] at e
                cases e
                rw [hag]
                exact ⟨hwn, hgr⟩
              · rw [if_neg hag] at e
                exact h1 a u ha hag e
            · intro a b u ha hb hna hnb ea eb
              dsimp only at hna hnb
              rw [set' ha] at ea
              rw [set' hb] at eb
              by_cases hag : a = g <;> by_cases hbg : b = g
              · rw [hag, hbg]
              · rw [if_pos hag] at ea
                rw [if_neg hbg] at eb
                cases ea
                exact absurd (h2 b q.1 w hb hqn hbg hne eb hqX) hnb
              · rw [if_neg hag] at ea
                rw [if_pos hbg] at eb
                cases eb
                exact absurd (h2 a q.1 w ha hqn hag hne ea hqX) hna
              · rw [if_neg hag] at ea
                rw [if_neg hbg] at eb
                exact h2 a b u ha hb hag hbg ea eb
            · intro u
              dsimp only
              rw [← h3 u]
              constructor
              · rintro ⟨a, ha, hna, ea⟩
                rw [set' ha] at ea
                by_cases hag : a = g
                · rw [if_pos hag] at ea
                  cases ea
                  exact ⟨q.1, hqn, hne, hqX⟩
                · rw [if_neg hag] at ea
                  exact ⟨a, ha, hag, ea⟩
              · rintro ⟨a, ha, hag, ea⟩
                by_cases haq : a = q.1
                · refine ⟨g, hg, fun z => hne z.symm, ?_⟩
                  rw [set' hg, if_pos rfl, ← hqX, ← haq, ea]
                · exact ⟨a, ha, haq, by rw [set' ha, if_neg hag]; exact ea⟩
            · intro z
              obtain ⟨u, eu, hu⟩ := hZ q.1 hqn z
              rw [hqo] at eu
              cases eu
              exact h4 (hu g hgr)
            · intro a ha z
              dsimp only
              rw [set' ha, if_neg (fun y : a = g => h4 (y ▸ z))]
              exact h5 a ha z
            · intro i' q' hi' hq'
              dsimp only
              have hq'n := (hw.2 i' q' hq').1
              rw [set' hq'n, if_neg, h6 i' q' (by omega) hq']
              intro z
              have nd := hw.1
              unfold ky at nd
              have a1 : (C.map fun p => p.1)[i']? = some q'.1 := by rw [List.getElem?_map, hq']; rfl
              have a2 : (C.map fun p => p.1)[k]? = some g := by rw [List.getElem?_map, hc]; rfl
              rw [z] at a1
              have := nd_ix nd a1 a2
              omega
    exact key m (O, e, pe) FUEL (by unfold FUEL; omega) P0
  · obtain ⟨X, g, so⟩ := x
    dsimp only at hx
    subst hx
    obtain ⟨hc, hl, h1, h2, h3, h4, h5, h6⟩ := px
    dsimp only at hc hl h1 h2 h3 h4 h5 h6 ⊢
    obtain ⟨hg, w, ew, hwn, hgr, hsrc⟩ := hw.2 k _ hc
    cases ew
    dsimp only at hg hgr
    rw [setR_of hg.1 (by rw [hl]; exact hg.2)]
    dsimp only [Res.bind_ok]
    have set' : ∀ {a : Int}, Gn n a → ow (X.set g.toNat (some s)) a = if a = g then some s else ow X a := fun ha => ow_set hl hg ha
    have hnX : ∀ a, Gn n a → a ≠ g → ow X a ≠ some s := fun a ha hag e => hns ((h3 s).mp ⟨a, ha, hag, e⟩)
    refine Tr.ok ⟨⟨set_len hl _ _, fun a u ha e => ?_, fun a b u ha hb ea eb => ?_⟩, fun u => ?_, fun a ha z => ?_⟩
    · rw [set' ha] at e
      by_cases hag : a = g
      · rw [if_pos hag] at e
        cases e
        rw [hag]
        exact ⟨hwn, hgr⟩
      · rw [if_neg hag] at e
        exact h1 a u ha hag e
    · rw [set' ha] at ea
      rw [set' hb] at eb
      by_cases hag : a = g <;> by_cases hbg : b = g
      · rw [hag, hbg]
      · rw [if_pos hag] at ea
        rw [if_neg hbg] at eb
        cases ea
        exact absurd eb (hnX b hb hbg)
      · rw [if_neg hag] at ea
        rw [if_pos hbg] at eb
        cases eb
        exact absurd ea (hnX a ha hag)
      · rw [if_neg hag] at ea
        rw [if_neg hbg] at eb
        exact h2 a b u ha hb hag hbg ea eb
    · rw [← h3 u]
      constructor
      · rintro ⟨a, ha, ea⟩
        rw [set' ha] at ea
        by_cases hag : a = g
        · rw [if_pos hag] at ea
          cases ea
          exact .inr rfl
        · rw [if_neg hag] at ea
          exact .inl ⟨a, ha, hag, ea⟩
      · rintro (⟨a, ha, hag, ea⟩ | rfl)
        · exact ⟨a, ha, by rw [set' ha, if_neg hag]; exact ea⟩
        · exact ⟨g, hg, by rw [set' hg, if_pos rfl]⟩
    · rw [set' ha, if_neg (fun y : a = g => h4 (y ▸ z))]
      exact h5 a ha z
/-- the owners in the end: nobody whom a way could serve is left over -/
structure Full (n : Nat) (R : List (List Int)) (O : List (Option Int)) : Prop where
  mt : Mt n R O
  shut : ∃ Z : Int → Prop, Shut n R O Z ∧ ∀ u, Gn n u → ¬ Md1 n O u → ∀ g ∈ rowOf R u, Z g
theorem owners_ok (hR : RowsG n R) : Tr (N_greatest_owners_tti R) (Full n R) := by
  unfold N_greatest_owners_tti
  have hn := hR.small
  refine Tr.st (lcR_map (g := fun _ => none) (by rw [hR.len]; omega) fun _ _ => rfl) ?_
  rw [rngR_nat (by rw [hR.len]; omega), hR.len]
  dsimp only [Res.bind_ok]
  have en : ∀ g, ow (R.map fun _ => (none : Option Int)) g = none := fun g => by
    unfold ow
    rw [List.getD_eq_getElem?_getD, List.getElem?_map]
    cases R[g.toNat]? <;> rfl
  refine Tr.bind (tr_forRn (Q := Full n R) (fun i O => Mt n R O ∧ (∀ u, Md1 n O u → u < i) ∧ ∃ Z : Int → Prop, Shut n R O Z ∧ ∀ u, Gn n u → u < i → ¬ Md1 n O u → ∀ g ∈ rowOf R u, Z g)
    ⟨⟨by rw [List.length_map]; exact hR.len, fun g u _ e => (by rw [en] at e; cases e), fun g k u _ _ e => (by rw [en] at e; cases e)⟩, fun u ⟨g, _, e⟩ => (by rw [en] at e; cases e), fun _ => False, fun g _ z => z.elim, fun u h0 h1 => by unfold Gn at h0; omega⟩ (fun i O hi ⟨hO, hu, Z, hZ, hf⟩ => ?_) fun O ⟨h1, h2, Z, h3, h4⟩ => ⟨h1, Z, h3, fun u hu => h4 u hu hu.2⟩) fun O h => Tr.ok h
  have hs : Gn n (i : Int) := ⟨by omega, by omega⟩
  have hns : ¬ Md1 n O (i : Int) := fun z => by have := hu _ z; omega
  refine Tr.bind (search_ok hR hO hs) fun r hr => ?_
  rcases hr with ⟨C, W, rfl, cm, hd⟩ | ⟨C, W, g, w, j, rfl, cm, ew, hg, hgn, hgC, hgo⟩
  · dsimp only [optC_none, Res.bind_ok]
    refine Tr.ok ⟨hO, fun u z => by have := hu u z; omega, fun g => Z g ∨ g ∈ ky C, fun g hg z => ?_, fun u hun hl hm g hgr => ?_⟩
    · rcases z with z | z
      · obtain ⟨u, e, h⟩ := hZ g hg z
        exact ⟨u, e, fun k hk => .inl (h k hk)⟩
      · obtain ⟨w, e⟩ := cm.own g z
        refine ⟨w, e, fun k hk => .inr ?_⟩
        obtain ⟨j, hj⟩ := List.mem_iff_getElem?.mp z
        refine hd (j + 1) w ?_ k hk
        rw [cm.wl, List.getElem?_cons_succ, List.getElem?_map, hj]
        exact congrArg some e
    · by_cases hui : u = (i : Int)
      · subst hui
        exact .inr (hd 0 _ (by rw [cm.wl]; rfl) g hgr)
      · exact .inl (hf u hun (by omega) hm g hgr)
  · dsimp only [optC_some]
    have hway := way_of hO hs cm ew hg hgn hgC
    refine Tr.bind (Q := fun x => Mt n R x.1 ∧ (∀ u, Md1 n x.1 u ↔ Md1 n O u ∨ u = (i : Int)) ∧ ∀ g, Gn n g → Z g → ow x.1 g = ow O g) (Tr.bind (changed_ok (m := C.length) (pe := some w) (Z := Z) hn hO hs hns hway (by simp) hgo hZ) fun O' h => Tr.ok h) fun x h => ?_
    obtain ⟨O', ex⟩ := x
    dsimp only at h ⊢
    obtain ⟨m', hm', hz'⟩ := h
    refine Tr.ok ⟨m', fun u z => ?_, Z, fun a ha z => ?_, fun u hun hl hm g hgr => ?_⟩
    · rcases (hm' u).mp z with z | z
      · have := hu u z; omega
      · omega
    · obtain ⟨u, e, h⟩ := hZ a ha z
      exact ⟨u, (hz' a ha z).trans e, h⟩
    · have h1 : ¬ Md1 n O u := fun z => hm ((hm' u).mpr (.inl z))
      have h2 : u ≠ (i : Int) := fun z => hm ((hm' u).mpr (.inr z))
      exact hf u hun (by omega) h1 g hgr
end Kx
namespace Kx
open PySem PySem.Spec L2 Da
/-- the whole, behind frozen -/
def gmOf (x1 : List (List Int)) : Res ((List (Option Int)) × Int × (List Int) × (List Int)) :=
  ((N_greatest_owners_tti x1).bind fun x2 =>
  ((lcR x1 (fun x3 => Res.ok true) (fun x3 => (Res.ok none))).bind fun x4 =>
  ((forR (σ := (List (Option Int))) (fun x5 x6 => ((optC x6.2 (Res.ok (x5, none)) fun x11 => ((setR x5 x11 (some x6.1)).bind fun x12 =>
  Res.ok (x12, (some x11)))).bind fun x13 =>
  Res.ok x13.1)) (enumI 0 x2) x4).bind fun x14 =>
  ((lcR (enumI 0 x14) (fun x15 => Res.ok (Option.isNone x15.2)) (fun x15 => (Res.ok x15.1))).bind fun x16 =>
  ((N_reached_goals_tti_loi_li x1 x2 x16).bind fun x17 =>
  ((dcR (x17.map fun x18 => x18.1) (fun x19 => Res.ok true) (fun x19 => ((ixR x2 x19).bind unO)) (fun x19 => (Res.ok true))).bind fun x20 =>
  (((lcR (enumI 0 x14) (fun x21 => Res.ok ((!(Option.isNone x21.2)) && (!dhasN x20 x21.1))) (fun x21 => (Res.ok x21.1))).bind fun x22 => (Res.ok x22)).bind fun x23 =>
  (((sortKR (x17.map fun x25 => x25.1)).bind fun x26 => (Res.ok x26)).bind fun x27 =>
  (N_Matching_init_toi_i_ti_ti x14 ((x1.length : Int) - (x16.length : Int)) x23 x27)))))))))
variable {n : Nat} {R : List (List Int)} {O : List (Option Int)}
theorem mrg_ky {α : Type} : ∀ {ys xs : List (Int × α)}, (xs.map fun p => p.1).Nodup → ((mrgN xs ys).map fun p => p.1).Nodup ∧ ∀ k, k ∈ (mrgN xs ys).map (fun p => p.1) ↔ k ∈ xs.map (fun p => p.1) ∨ k ∈ ys.map (fun p => p.1)
  | [], xs, h => ⟨h, fun k => by unfold mrgN; simp⟩
  | p :: ys, xs, h => by
    unfold mrgN
    have hk : (dputN xs p.1 p.2).map (fun q => q.1) = if p.1 ∈ xs.map (fun q => q.1) then xs.map (fun q => q.1) else xs.map (fun q => q.1) ++ [p.1] := by
      by_cases m : p.1 ∈ xs.map fun q => q.1
      · rw [if_pos m]
        unfold dputN
        rw [if_pos (by
          obtain ⟨q, hq, e⟩ := List.mem_map.mp m
          exact List.any_eq_true.mpr ⟨q, hq, by simpa using e⟩), List.map_map]
        refine List.map_congr_left fun q _ => ?_
        show (if q.1 = p.1 then (q.1, p.2) else q).1 = q.1
        split <;> rfl
      · rw [if_neg m, dput_new m, List.map_append]
        rfl
    have nd : ((dputN xs p.1 p.2).map fun q => q.1).Nodup := by
      rw [hk]
      split
      · exact h
      · rename_i m
        refine List.nodup_append.mpr ⟨h, by simp, fun a ha b hb => ?_⟩
        have : b = p.1 := by simpa using hb
        subst this
        exact fun z => m (z ▸ ha)
    obtain ⟨h1, h2⟩ := mrg_ky (ys := ys) nd
    refine ⟨h1, fun k => ?_⟩
    rw [h2, hk, List.map_cons, List.mem_cons]
    split
    · rename_i m
      constructor
      · rintro (a | a)
        · exact .inl a
        · exact .inr (.inr a)
      · rintro (a | a | a)
        · exact .inl a
        · exact .inl (a ▸ m)
        · exact .inr a
    · rw [List.mem_append]
      constructor
      · rintro ((a | a) | a)
        · exact .inl a
        · exact .inr (.inl (by simpa using a))
        · exact .inr (.inr a)
      · rintro (a | a | a)
        · exact .inl (.inl a)
        · exact .inl (.inr (by simpa using a))
        · exact .inr a
/-- what is reached from the free senders -/
structure Reach (n : Nat) (R : List (List Int)) (O : List (Option Int)) (us : List Int) (C : List (Int × Option Int)) : Prop where
  nd : (ky C).Nodup
  rng : ∀ g ∈ ky C, Gn n g
  own : ∀ g ∈ ky C, ∃ w, ow O g = some w ∧ ∀ k ∈ rowOf R w, k ∈ ky C
  all : ∀ u ∈ us, ∀ k ∈ rowOf R u, k ∈ ky C
theorem reached_ok {us : List Int} (hR : RowsG n R) (hF : Full n R O) (hus : ∀ u ∈ us, Gn n u ∧ ¬ Md1 n O u) : Tr (N_reached_goals_tti_loi_li R O us) (Reach n R O us) := by
  unfold N_reached_goals_tti_loi_li
  have hn := hR.small
  obtain ⟨hO, Z, hZ, hf⟩ := hF
  refine Tr.bind (tr_forR (Q := Reach n R O us) (fun i C => Reach n R O (us.take i) C) ⟨List.nodup_nil, fun g h => (nomatch h), fun g h => (nomatch h), fun u h => by simp at h⟩ (fun i u F hu rF => ?_) fun F h => (by simpa using h)) fun F h => Tr.ok h
  have hum := List.mem_of_getElem? hu
  obtain ⟨hun, hum⟩ := hus u hum
  obtain ⟨r, er, hr⟩ := search_ok hR hO hun
  rw [er]
  dsimp only [Res.bind_ok]
  rcases hr with ⟨C, W, rfl, cm, hd⟩ | ⟨C, W, g, w, j, rfl, cm, ew, hg, hgn, hgC, hgo⟩
  · dsimp only
    obtain ⟨m1, m2⟩ := mrg_ky (ys := C) rF.nd
    have l1 := nd_le rF.nd rF.rng
    have l2 := cm.clen
    unfold ky at l1
    rw [List.length_map] at l1
    unfold mrgR
    rw [if_pos (szOk_yes (by omega))]
    have into : ∀ k, k ∈ ky (mrgN F C) ↔ k ∈ ky F ∨ k ∈ ky C := m2
    refine Tr.ok ⟨m1, fun g hg => ((into g).mp hg).elim (rF.rng g) (cm.rng g), fun g hg => ?_, fun v hv k hk => (into k).mpr ?_⟩
    · rcases (into g).mp hg with hg | hg
      · obtain ⟨w, e, h⟩ := rF.own g hg
        exact ⟨w, e, fun k hk => (into k).mpr (.inl (h k hk))⟩
      · obtain ⟨w, e⟩ := cm.own g hg
        refine ⟨w, e, fun k hk => (into k).mpr (.inr ?_)⟩
        obtain ⟨j, hj⟩ := List.mem_iff_getElem?.mp hg
        refine hd (j + 1) w ?_ k hk
        rw [cm.wl, List.getElem?_cons_succ, List.getElem?_map, hj]
        exact congrArg some e
    · rw [List.take_add_one, hu, Option.toList_some] at hv
      rcases List.mem_append.mp hv with hv | hv
      · exact .inl (rF.all v hv k hk)
      · have : v = u := by simpa using hv
        subst this
        exact .inr (hd 0 _ (by rw [cm.wl]; rfl) k hk)
  · exfalso
    -- all that a search from a free sender meets lies in the shut set
    have key : ∀ (k : Nat) q, C[k]? = some q → Z q.1 := by
      intro k
      induction k using Nat.strongRecOn with
      | ind k ih =>
        intro q hq
        obtain ⟨i, w', h1, h2, h3, h4⟩ := cm.frm k q hq
        rw [cm.wl] at h2
        cases i with
        | zero => cases h2; exact hf u hun hum q.1 h4
        | succ i =>
          rw [List.getElem?_cons_succ, List.getElem?_map] at h2
          unfold ky at h2
          rw [List.getElem?_map] at h2
          cases ec : C[i]? with
          | none => rw [ec] at h2; cases h2
          | some p =>
            rw [ec] at h2
            have h2 : ow O p.1 = some w' := by simpa using h2
            have zp := ih i (by omega) p ec
            obtain ⟨x, ex, hx⟩ := hZ p.1 (cm.rng _ (List.mem_map.mpr ⟨p, List.mem_of_getElem? ec, rfl⟩)) zp
            rw [h2] at ex
            cases ex
            exact hx q.1 h4
    have zg : Z g := by
      rw [cm.wl] at ew
      cases j with
      | zero => cases ew; exact hf u hun hum g hg
      | succ i =>
        rw [List.getElem?_cons_succ, List.getElem?_map] at ew
        unfold ky at ew
        rw [List.getElem?_map] at ew
        cases ec : C[i]? with
        | none => rw [ec] at ew; cases ew
        | some p =>
          rw [ec] at ew
          have ew : ow O p.1 = some w := by simpa using ew
          obtain ⟨x, ex, hx⟩ := hZ p.1 (cm.rng _ (List.mem_map.mpr ⟨p, List.mem_of_getElem? ec, rfl⟩)) (key i p ec)
          rw [ew] at ex
          cases ex
          exact hx g hg
    obtain ⟨x, ex, _⟩ := hZ g hgn zg
    rw [hgo] at ex
    cases ex
/-- a matching, told with a cover of just its size -/
structure Mat (n : Nat) (R : List (List Int)) (p : List (Option Int)) (c : Int) (ss gs : List Int) : Prop where
  len : p.length = n
  good : ∀ u v, Gn n u → ow p u = some v → v ∈ rowOf R u
  inj : ∀ u w v, Gn n u → Gn n w → ow p u = some v → ow p w = some v → u = w
  cnt : c = (((upto n).filter fun u => (ow p u).isSome).length : Int)
  sa : ss.Pairwise (· < ·)
  sn : ∀ u ∈ ss, Gn n u
  ga : gs.Pairwise (· < ·)
  gn : ∀ g ∈ gs, Gn n g
  tot : (ss.length : Int) + gs.length = c
  cov : ∀ u v, Gn n u → v ∈ rowOf R u → u ∈ ss ∨ v ∈ gs
theorem enum_map (hO : O.length = n) : enumI 0 O = (upto n).map fun v => (v, ow O v) := by
  refine List.ext_getElem? fun i => ?_
  rw [List.getElem?_map]
  by_cases hi : i < n
  · rw [upto_at hi]
    have h := List.getElem?_eq_getElem (show i < (enumI 0 O).length by rw [enumI_length, hO]; exact hi)
    obtain ⟨h1, h2, _⟩ := enum_ow hO h
    rw [h]
    show some _ = some _
    congr 1
    exact Prod.ext h1 h2
  · rw [List.getElem?_eq_none (by rw [enumI_length, hO]; omega), List.getElem?_eq_none (by rw [upto_length]; omega)]
    rfl
theorem upto_asc {n : Nat} : (upto n).Pairwise (· < ·) := by
  unfold upto
  rw [List.pairwise_map]
  exact List.pairwise_lt_range.imp fun h => by omega
theorem asc_nd {xs : List Int} (h : xs.Pairwise (· < ·)) : xs.Nodup := h.imp fun h z => by omega
theorem lc_enum (hO : O.length = n) (hn : n ≤ 63) (f : Int → Option Int → Bool) : lcR (enumI 0 O) (fun x => Res.ok (f x.1 x.2)) (fun x => Res.ok x.1) = .ok ((upto n).filter fun v => f v (ow O v)) := by
  rw [enum_map hO]
  have := (tr_lcf (c := fun x : Int × Option Int => Res.ok (f x.1 x.2)) (f := fun x => Res.ok x.1) (xs := (upto n).map fun v => (v, ow O v)) (Q := fun r => r = (upto n).filter fun v => f v (ow O v)) (fun x => f x.1 x.2) (fun x => x.1) (by rw [List.length_map, upto_length]; omega) (fun x _ => Tr.ok rfl) (fun x _ _ => Tr.ok rfl) (by
    rw [List.filter_map, List.map_map]
    exact List.map_id' _))
  exact this.eq
theorem partners_ok (hO : Mt n R O) (hn : n ≤ 63) (hl : R.length = n) : Tr (forR (σ := (List (Option Int))) (fun x5 x6 => ((optC x6.2 (Res.ok (x5, none)) fun x11 => ((setR x5 x11 (some x6.1)).bind fun x12 =>
  Res.ok (x12, (some x11)))).bind fun x13 =>
  Res.ok x13.1)) (enumI 0 O) (R.map fun _ => none)) fun p => p.length = n ∧ ∀ u v, Gn n u → (ow p u = some v ↔ Gn n v ∧ ow O v = some u) := by
  have en : ∀ g, ow (R.map fun _ => (none : Option Int)) g = none := fun g => by
    unfold ow
    rw [List.getD_eq_getElem?_getD, List.getElem?_map]
    cases R[g.toNat]? <;> rfl
  refine tr_forR (fun i p => p.length = n ∧ ∀ u v, Gn n u → (ow p u = some v ↔ Gn n v ∧ v < i ∧ ow O v = some u)) ⟨by rw [List.length_map]; exact hl, fun u v hu => ?_⟩ (fun i x p hx ⟨h1, h2⟩ => ?_) fun p ⟨h1, h2⟩ => ⟨h1, fun u v hu => ?_⟩
  · rw [en]
    constructor
    · intro z; cases z
    · rintro ⟨a, b, _⟩; unfold Gn at a; omega
  · obtain ⟨e1, e2, hi⟩ := enum_ow hO.len hx
    have hin : Gn n (i : Int) := ⟨by omega, by omega⟩
    rw [e2, e1]
    cases eo : ow O (i : Int) with
    | none =>
      dsimp only [optC_none, Res.bind_ok]
      refine Tr.ok ⟨h1, fun u v hu => ?_⟩
      rw [h2 u v hu]
      constructor
      · exact fun ⟨a, b, c⟩ => ⟨a, by omega, c⟩
      · rintro ⟨a, b, c⟩
        refine ⟨a, ?_, c⟩
        by_cases hv : v = (i : Int)
        · rw [hv, eo] at c; cases c
        · omega
    | some w =>
      have hw := (hO.edge _ w hin eo).1
      dsimp only [optC_some]
      rw [setR_of hw.1 (by rw [h1]; exact hw.2)]
      dsimp only [Res.bind_ok]
      refine Tr.ok ⟨set_len h1 _ _, fun u v hu => ?_⟩
      rw [ow_set h1 hw hu]
      by_cases huw : u = w
      · rw [if_pos huw]
        constructor
        · intro z
          cases z
          exact ⟨hin, by omega, by rw [huw]; exact eo⟩
        · rintro ⟨a, b, c⟩
          rw [huw] at c
          rw [hO.inj v i w a hin c eo]
      · rw [if_neg huw, h2 u v hu]
        constructor
        · exact fun ⟨a, b, c⟩ => ⟨a, by omega, c⟩
        · rintro ⟨a, b, c⟩
          refine ⟨a, ?_, c⟩
          by_cases hv : v = (i : Int)
          · rw [hv, eo] at c
            cases c
            exact absurd rfl huw
          · omega
  · rw [h2 u v hu, enumI_length, hO.len]
    exact ⟨fun ⟨a, _, c⟩ => ⟨a, c⟩, fun ⟨a, c⟩ => ⟨a, a.2, c⟩⟩
theorem filter_len {α : Type} {xs : List α} (p q : α → Bool) : (xs.filter p).length = (xs.filter fun x => p x && q x).length + (xs.filter fun x => p x && !q x).length := by
  induction xs with
  | nil => rfl
  | cons x xs ih =>
    simp only [List.filter_cons]
    cases p x <;> cases q x <;> simp <;> omega
theorem gm_ok (hR : RowsG n R) : Tr (gmOf R) fun x => Mat n R x.1 x.2.1 x.2.2.1 x.2.2.2 := by
  unfold gmOf
  have hn := hR.small
  refine Tr.bind (owners_ok hR) fun O hF => ?_
  have hO := hF.mt
  refine Tr.st (lcR_map (g := fun _ => none) (by rw [hR.len]; omega) fun _ _ => rfl) ?_
  refine Tr.bind (partners_ok hO hn hR.len) fun p ⟨pl, hp⟩ => ?_
  have free := lc_enum (O := p) pl hn fun _ o => o.isNone
  refine Tr.st free ?_
  -- who is matched
  have hm : ∀ u, Gn n u → (Md1 n O u ↔ ∃ v, ow p u = some v) := fun u hu => ⟨fun ⟨g, h1, h2⟩ => ⟨g, (hp u g hu).mpr ⟨h1, h2⟩⟩, fun ⟨v, e⟩ => ⟨v, ((hp u v hu).mp e).1, ((hp u v hu).mp e).2⟩⟩
  have hfr : ∀ u ∈ (upto n).filter (fun v => (ow p v).isNone), Gn n u ∧ ¬ Md1 n O u := fun u hu => by
    obtain ⟨h1, h2⟩ := List.mem_filter.mp hu
    have h1 := mem_upto.mp h1
    refine ⟨h1, fun z => ?_⟩
    obtain ⟨v, e⟩ := (hm u h1).mp z
    rw [e] at h2
    cases h2
  refine Tr.bind (reached_ok hR hF hfr) fun F rF => ?_
  have fl : F.length ≤ n := by
    have := nd_le rF.nd rF.rng
    unfold ky at this
    rwa [List.length_map] at this
  obtain ⟨Sn, eS, hS⟩ := dcR_inv (xs := F.map fun x18 => x18.1) (c := fun x19 => Res.ok true) (fk := fun x19 => (ixR O x19).bind unO) (fv := fun x19 => (Res.ok true)) (fun i acc => ∀ u, dhasN acc u = true ↔ ∃ (j : Nat) (g : Int), j < i ∧ (ky F)[j]? = some g ∧ ow O g = some u) (by rw [List.length_map]; omega) (fun u => by
    constructor
    · intro z; cases z
    · rintro ⟨j, g, h, _⟩; omega) fun i g acc hg h => by
      have hgm := List.mem_of_getElem? hg
      obtain ⟨w, ew, _⟩ := rF.own g hgm
      refine .inr ⟨rfl, w, true, by rw [ix_ow hO.len (rF.rng g hgm)]; dsimp only [Res.bind_ok]; rw [ew]; rfl, rfl, fun u => ?_⟩
      have hput : dhasN (dputN acc w true) u = true ↔ w = u ∨ dhasN acc u = true := by
        unfold dhasN
        rw [dlook_new]
        by_cases hwu : w = u <;> simp [hwu]
      rw [hput, h u]
      constructor
      · rintro (rfl | ⟨j, g', h1, h2, h3⟩)
        · exact ⟨i, g, by omega, hg, ew⟩
        · exact ⟨j, g', by omega, h2, h3⟩
      · rintro ⟨j, g', h1, h2, h3⟩
        by_cases hj : j = i
        · subst hj
          have h2 : (List.map (fun x18 => x18.1) F)[j]? = some g' := h2
          rw [hg] at h2
          cases h2
          rw [ew] at h3
          cases h3
          exact .inl rfl
        · exact .inr ⟨j, g', by omega, h2, h3⟩
  refine Tr.st eS ?_
  have hS' : ∀ u, dhasN Sn u = true ↔ ∃ g ∈ ky F, ow O g = some u := fun u => by
    rw [hS u]
    constructor
    · rintro ⟨j, g, _, h2, h3⟩
      exact ⟨g, List.mem_of_getElem? h2, h3⟩
    · rintro ⟨g, h2, h3⟩
      obtain ⟨j, hj⟩ := List.mem_iff_getElem?.mp h2
      exact ⟨j, g, (List.getElem?_eq_some_iff.mp hj).1, hj, h3⟩
  have eSs := lc_enum (O := p) pl hn fun u o => (!(Option.isNone o)) && (!dhasN Sn u)
  refine Tr.st (by rw [eSs]; rfl) ?_
  refine Tr.st (show ((sortKR (F.map fun x25 => x25.1)).bind fun x26 => (Res.ok x26)) = .ok ((ky F).mergeSort leI) by
    unfold sortKR sml64
    rw [if_pos (stuck_iff.mpr (by rw [List.length_map]; omega))]
    rfl) ?_
  unfold N_Matching_init_toi_i_ti_ti
  dsimp only [Res.bind_ok]
  have isn : ∀ o : Option Int, (!o.isNone) = o.isSome := fun o => by cases o <;> rfl
  -- as many are free as are not matched
  have split : (upto n).length = ((upto n).filter fun u => (ow p u).isSome).length + ((upto n).filter fun v => (ow p v).isNone).length := by
    have := filter_len (xs := upto n) (fun _ => true) fun u => (ow p u).isSome
    simp only [Bool.true_and] at this
    rw [show (upto n).filter (fun _ => true) = upto n from List.filter_eq_self.mpr fun _ _ => rfl] at this
    rw [this]
    congr 2
    refine List.filter_congr fun x _ => ?_
    cases ow p x <;> rfl
  have hsrt := List.mergeSort_perm (ky F) leI
  have hsp : ((ky F).mergeSort leI).Pairwise (· < ·) := by
    have h1 := List.pairwise_mergeSort (le := leI) (fun a b c h1 h2 => by unfold leI at *; simp at *; omega) (fun a b => by unfold leI; simp; omega) (ky F)
    have h2 : ((ky F).mergeSort leI).Nodup := hsrt.nodup_iff.mpr rF.nd
    exact (h1.and h2).imp fun ⟨a, b⟩ => by unfold leI at a; simp at a; omega
  refine Tr.ok ⟨pl, fun u v hu e => ?_, fun u w v hu hw e1 e2 => ?_, ?_, upto_asc.filter _, fun u hu => mem_upto.mp (List.mem_filter.mp hu).1, hsp, fun g hg => rF.rng g (hsrt.mem_iff.mp hg), ?_, fun u v hu hv => ?_⟩
  · obtain ⟨hv, eo⟩ := (hp u v hu).mp e
    exact (hO.edge v u hv eo).2
  · obtain ⟨_, a⟩ := (hp u v hu).mp e1
    obtain ⟨_, b⟩ := (hp w v hw).mp e2
    rw [a] at b
    cases b
    rfl
  · rw [hR.len]
    rw [upto_length] at split
    dsimp only
    omega
  · rw [hsrt.length_eq, hR.len]
    rw [upto_length] at split
    dsimp only
    have h1 := filter_len (xs := upto n) (fun u => (ow p u).isSome) fun u => dhasN Sn u
    have h2 : ((upto n).filter fun x => (ow p x).isSome && dhasN Sn x).length = (ky F).length := by
      have e1 : ((ky F).map fun g => (ow O g).getD 0).length = (ky F).length := List.length_map _
      rw [← e1]
      refine ((List.perm_ext_iff_of_nodup ((asc_nd upto_asc).filter _) (List.pairwise_map.mpr (rF.nd.imp_of_mem fun {x y} hx hy hne z => hne (by
        obtain ⟨a, ea, _⟩ := rF.own x hx
        obtain ⟨b, eb, _⟩ := rF.own y hy
        rw [ea, eb] at z
        have z : a = b := z
        subst z
        exact hO.inj x y a (rF.rng x hx) (rF.rng y hy) ea eb)))).mpr fun u => ?_).length_eq
      · rw [List.mem_filter, Bool.and_eq_true, hS' u, List.mem_map, mem_upto]
        constructor
        · rintro ⟨_, _, g, hg, eg⟩
          exact ⟨g, hg, by rw [eg]; rfl⟩
        · rintro ⟨g, hg, eg⟩
          obtain ⟨a, ea, _⟩ := rF.own g hg
          rw [ea] at eg
          have eg : a = u := eg
          subst eg
          have hun := (hO.edge g a (rF.rng g hg) ea).1
          refine ⟨hun, ?_, g, hg, ea⟩
          rw [(hp a g hun).mpr ⟨rF.rng g hg, ea⟩]
          rfl
    have h3 : ((upto n).filter fun v => !(ow p v).isNone && !dhasN Sn v) = (upto n).filter fun x => (ow p x).isSome && !dhasN Sn x := List.filter_congr fun x _ => by rw [isn]
    rw [h3]
    omega
  · by_cases hus : u ∈ (upto n).filter fun v => !(ow p v).isNone && !dhasN Sn v
    · exact .inl hus
    · refine .inr (hsrt.mem_iff.mpr ?_)
      rw [List.mem_filter, mem_upto] at hus
      cases eu : ow p u with
      | none => exact rF.all u (List.mem_filter.mpr ⟨mem_upto.mpr hu, by rw [eu]; rfl⟩) v hv
      | some x =>
        have : dhasN Sn u = true := by
          cases hd : dhasN Sn u with
          | true => rfl
          | false => exact absurd ⟨hu, by rw [eu, hd]; rfl⟩ hus
        obtain ⟨g, hg, eg⟩ := (hS' u).mp this
        obtain ⟨w, ew, h⟩ := rF.own g hg
        rw [eg] at ew
        cases ew
        exact h v hv
end Kx
namespace Kx
open PySem PySem.Spec L2 Da
variable {n : Nat}
theorem zip_keys {α β : Type} : ∀ {S : List α} {G : List β}, S.length = G.length → (S.zip G).map (fun p => p.1) = S
  | [], [], _ => rfl
  | [], _ :: _, h => by simp at h
  | _ :: _, [], h => by simp at h
  | s :: S, g :: G, h => by rw [List.zip_cons_cons, List.map_cons, zip_keys (by simpa using h)]
structure Pick (n : Nat) (S G : List Int) : Prop where
  len : S.length = G.length
  snd : S.Nodup
  gnd : G.Nodup
  sin : ∀ s ∈ S, Gn n s
  gin : ∀ g ∈ G, Gn n g
theorem upto_snoc {i : Nat} : upto (i + 1) = upto i ++ [(i : Int)] := by unfold upto; rw [List.range_succ, List.map_append]; rfl
theorem upto_nd : (upto n).Nodup := asc_nd upto_asc
theorem Pick.at_ {S G : List Int} (h : Pick n S G) {k : Nat} {s g : Int} (hs : S[k]? = some s) (hg : G[k]? = some g) : dlookN (S.zip G) s = some g := by
  have e : (S.zip G)[k]? = some (s, g) := List.getElem?_zip_eq_some.mpr ⟨hs, hg⟩
  exact dlook_at (by rw [zip_keys h.len]; exact h.snd) e
end Kx
namespace Kx
open PySem PySem.Spec L2 Da
theorem law_cell (ns : List Int) (k : Int) (hk : 0 ≤ k) (hk2 : k < 1000000) : ∃ c : Int, N_law_cell_fi_i ns k = .ok c := by
  unfold N_law_cell_fi_i
  by_cases h : k < ns.length
  · exact ⟨ns[k.toNat], by simp [h, ixR_of (xs := ns) (x := ns[k.toNat]) hk (List.getElem?_eq_getElem (by omega))]⟩
  · obtain ⟨s, e, h1, h2⟩ := forR_inv (xs := ns) (s := (17 : Int)) (f := fun s x1 => (mulR s 31).bind fun x => Res.ok ((x + x1 % 1000003) % 1000003)) (fun _ s => 0 ≤ s ∧ s < 1000003) ⟨by omega, by omega⟩ fun i x s _ h => by
      refine ⟨_, by rw [mulR_64 (by omega) (by omega)]; rfl, ?_⟩
      omega
    have m1 : 0 ≤ (s + 7) * (k + 3) ∧ (s + 7) * (k + 3) ≤ 1000010 * 1000003 := ⟨Int.mul_nonneg (by omega) (by omega), Int.mul_le_mul (by omega) (by omega) (by omega) (by omega)⟩
    refine ⟨((s + 7) * (k + 3) * 69621) % 2147483647, ?_⟩
    simp only [Res.bind_assoc, Res.bind_ok, Res.bind_ret]
    rw [if_neg (by simpa using h), e]
    simp only [Res.bind_ok]
    rw [mulR_64 (by omega) (by omega)]
    simp only [Res.bind_ok]
    rw [mulR_64 (by omega) (by omega)]
    rfl
theorem law_digits (c : Int) (sizes : List Int) (hp : ∀ s ∈ sizes, 0 < s ∧ s < 18446744073709551616) (hz : sizes.length ≤ 100000) : ∃ row : List Int, N_law_digits_i_li c sizes = .ok row ∧ Digs sizes row := by
  unfold N_law_digits_i_li
  simp only [powR_18, Res.bind_ok, Res.bind_assoc, Res.bind_ret]
  by_cases h : 1000000000000000000 ≤ c
  · rw [if_pos (by simpa using h)]
    obtain ⟨s, e, hd⟩ := forR_inv (xs := sizes) (s := (([] : List Int), c - 1000000000000000000)) (f := fun x5 x4 => (modR x5.2 x4).bind fun x => (appR x5.1 x).bind fun x => (divR x5.2 x4).bind fun x7 => Res.ok (x, x7)) (fun n s => Digs (sizes.take n) s.1) ⟨rfl, fun i s r e => by simp at e⟩ fun i x s hx hd => by
      have hs := hp x (List.mem_of_getElem? hx)
      have hl : s.1.length ≤ 100000 := by have := hd.1; rw [List.length_take] at this; omega
      refine ⟨(s.1 ++ [s.2 % x], s.2 / x), ?_, hd.snoc hx (Int.emod_nonneg _ (by omega)) (Int.emod_lt_of_pos _ hs.1)⟩
      rw [modR_pos hs.1]; dsimp only [Res.bind_ok]; rw [appR_ok (by omega)]; dsimp only [Res.bind_ok]; rw [divR_64 hs.1 hs.2]; rfl
    rw [List.take_length] at hd
    refine ⟨s.1, ?_, hd⟩
    rw [e]; rfl
  · rw [if_neg (by simpa using h), rngR_nat (by omega)]
    dsimp only [Res.bind_ok]
    have hm := Int.emod_nonneg c (show (2147483629 : Int) ≠ 0 by decide)
    have hm2 := Int.emod_lt_of_pos c (show (0 : Int) < 2147483629 by decide)
    obtain ⟨s, e, hd, _, _⟩ := forR_upto (n := sizes.length) (s := (([] : List Int), c % 2147483629)) (f := fun x10 x9 => (mulR x10.2 48271).bind fun x => (mulR 974711 x9).bind fun x_1 => (mulR ((x + x_1 + 12345) % 2147483647) ((x + x_1 + 12345) % 2147483647 / 65537 + 3)).bind fun x_2 => (ixR sizes x9).bind fun x_3 => (modR (x_2 % 2147483629 / 19) x_3).bind fun x_4 => (appR x10.1 x_4).bind fun x_5 => Res.ok (x_5, (x + x_1 + 12345) % 2147483647))
      (fun n s => Digs (sizes.take n) s.1 ∧ 0 ≤ s.2 ∧ s.2 < 2147483647) ⟨⟨rfl, fun i s r e => by simp at e⟩, hm, by omega⟩ fun i s hi hd => by
      obtain ⟨hd, h1, h2⟩ := hd
      have e := List.getElem?_eq_getElem hi
      have hs := hp sizes[i] (List.mem_of_getElem? e)
      have hl : s.1.length ≤ 100000 := by have := hd.1; rw [List.length_take] at this; omega
      generalize hs' : (s.2 * 48271 + 974711 * (i : Int) + 12345) % 2147483647 = s'
      have b1 : 0 ≤ s' := by rw [← hs']; exact Int.emod_nonneg _ (by decide)
      have b2 : s' < 2147483647 := by rw [← hs']; exact Int.emod_lt_of_pos _ (by decide)
      have b3 : 0 ≤ s' / 65537 ∧ s' / 65537 < 40000 := by omega
      refine ⟨(s.1 ++ [s' * (s' / 65537 + 3) % 2147483629 / 19 % sizes[i]], s'), ?_, hd.snoc e (Int.emod_nonneg _ (by omega)) (Int.emod_lt_of_pos _ hs.1), b1, b2⟩
      rw [mulR_64 (by omega) (by omega)]; dsimp only [Res.bind_ok]
      rw [mulR_64 (by omega) (by omega)]; dsimp only [Res.bind_ok]
      rw [hs', mulR_64 (by omega) (by omega)]; dsimp only [Res.bind_ok]
      rw [ixR_nat e]; dsimp only [Res.bind_ok]
      rw [modR_pos hs.1]; dsimp only [Res.bind_ok]
      rw [appR_ok (by omega)]; rfl
    rw [List.take_length] at hd
    refine ⟨s.1, ?_, hd⟩
    rw [e]; rfl
theorem take_out' {L : List Int} {k : Nat} (hk : k < L.length) : (L[k] :: L.eraseIdx k).Perm L := by
  rw [List.eraseIdx_eq_take_drop_succ]
  have h := (List.perm_middle (a := L[k]) (l₁ := L.take k) (l₂ := L.drop (k + 1))).symm
  refine h.trans (List.Perm.of_eq ?_)
  rw [← List.drop_eq_getElem_cons hk, List.take_append_drop]
end Kx
namespace Da
theorem Digs.get {sizes row : List Int} (h : Digs sizes row) {i : Nat} {s : Int} (hs : sizes[i]? = some s) : ∃ r, row[i]? = some r ∧ 0 ≤ r ∧ r < s := by
  have hi := (List.getElem?_eq_some_iff.mp hs).1
  have hi' : i < row.length := by rw [h.1]; exact hi
  exact ⟨row[i], List.getElem?_eq_getElem hi', h.2 i s _ hs (List.getElem?_eq_getElem hi')⟩
theorem Digs.ix {sizes row : List Int} (h : Digs sizes row) {i : Nat} {s : Int} (hs : sizes[i]? = some s) : ∃ r, ixR row (i : Int) = .ok r ∧ 0 ≤ r ∧ r < s := by
  obtain ⟨r, e, h⟩ := h.get hs
  exact ⟨r, ixR_nat e, h⟩
end Da
namespace Kx
open PySem PySem.Spec L2 Da
def Nd (n : Nat) (x : Int) : Prop := 0 ≤ x ∧ x < n
theorem Nd.of {n k : Nat} (h : k < n) : Nd n (k : Int) := ⟨by omega, by omega⟩
def nb (N : List (List Int)) (a : Int) : List Int := N.getD a.toNat []
structure Near (n : Nat) (N : List (List Int)) : Prop where
  len : N.length = n
  pos : 0 < n
  le : n ≤ 24
  rng : ∀ a b, Nd n a → b ∈ nb N a → Nd n b ∧ b ≠ a
  sym : ∀ a b, Nd n a → b ∈ nb N a → a ∈ nb N b
  few : ∀ a, (nb N a).length ≤ 1000
  con : ∀ S : Int → Prop, (∀ a b, Nd n a → b ∈ nb N a → S a → S b) → ∀ s t, Nd n s → Nd n t → S s → S t
end Kx
namespace Kx
open PySem PySem.Spec L2 Da
theorem nodup_le {n : Nat} {r : List Int} (nd : r.Nodup) (rg : ∀ x ∈ r, Nd n x) : r.length ≤ n := by
  have := nd.length_le_of_subset (l₂ := upto n) fun x hx => mem_upto.mpr (rg x hx)
  rwa [upto_length] at this
/-- each node is followed by a neighbor -/
def Stp (N : List (List Int)) (r : List Int) : Prop := ∀ (i : Nat) a b, r[i]? = some a → r[i + 1]? = some b → b ∈ nb N a
structure Rt (n : Nat) (N : List (List Int)) (u v : Int) (r : List Int) : Prop where
  hd : r.head? = some u
  la : r.getLast? = some v
  nd : r.Nodup
  rg : ∀ x ∈ r, Nd n x
  st : Stp N r
theorem Rt.len {n : Nat} {N : List (List Int)} {u v : Int} {r : List Int} (h : Rt n N u v r) : r.length ≤ n := nodup_le h.nd h.rg
theorem Rt.ne {n : Nat} {N : List (List Int)} {u v : Int} {r : List Int} (h : Rt n N u v r) : r ≠ [] := fun e => by have := h.hd; rw [e] at this; cases this
theorem Stp.one {N : List (List Int)} {x : Int} : Stp N [x] := fun i a b h1 h2 => by simp at h2
theorem Stp.snoc {N : List (List Int)} {r : List Int} {a b : Int} (h : Stp N r) (hl : r.getLast? = some a) (hb : b ∈ nb N a) : Stp N (r ++ [b]) := fun i x y h1 h2 => by
  by_cases hi : i + 1 < r.length
  · rw [List.getElem?_append_left (by omega)] at h1 h2
    exact h i x y h1 h2
  · have hlt := (List.getElem?_eq_some_iff.mp h2).1
    rw [List.length_append, List.length_singleton] at hlt
    have e : i + 1 = r.length := by omega
    rw [e, List.getElem?_concat_length] at h2
    rw [List.getElem?_append_left (by omega)] at h1
    rw [List.getLast?_eq_getElem?, show r.length - 1 = i by omega, h1] at hl
    cases h2; cases hl
    exact hb
theorem frozen_t (r : List Int) (h : r.length ≤ 1000000) : N_frozen_ti r = .ok r := by
  unfold N_frozen_ti
  simp only [Res.bind_ret]
  exact (lcR_map (g := fun x => x) h fun x _ => rfl).trans (by rw [List.map_id'])
def rtAt (R : List (List (List Int))) (u v : Nat) : List Int := (R.getD u []).getD v []
/-- rows of routes -/
structure Rows (n : Nat) (N : List (List Int)) (R : List (List (List Int))) : Prop where
  len : R.length = n
  row : ∀ (u : Nat), u < n → (R.getD u []).length = n
  rt : ∀ (u v : Nat), u < n → v < n → Rt n N u v (rtAt R u v)
theorem getD_some {α : Type} {xs : List α} {d : α} {i : Nat} (h : i < xs.length) : xs[i]? = some (xs.getD i d) := by
  rw [List.getD_eq_getElem?_getD, List.getElem?_eq_getElem h]; rfl
theorem mem_getD {α : Type} {xs : List α} {d x : α} (h : x ∈ xs) : ∃ i, i < xs.length ∧ x = xs.getD i d := by
  obtain ⟨i, hi⟩ := List.mem_iff_getElem?.mp h
  have hl := (List.getElem?_eq_some_iff.mp hi).1
  refine ⟨i, hl, ?_⟩
  rw [getD_some (d := d) hl] at hi
  cases hi
  rfl
theorem Rows.ix {n : Nat} {N : List (List Int)} {R : List (List (List Int))} (h : Rows n N R) {u v : Nat} (hu : u < n) (hv : v < n) : ((ixR R (u : Int)).bind fun x => ixR x (v : Int)) = .ok (rtAt R u v) := by
  rw [ixR_nat (getD_some (d := []) (by rw [h.len]; exact hu))]
  dsimp only [Res.bind_ok]
  rw [ixR_nat (getD_some (d := []) (by rw [h.row u hu]; exact hv))]
  rfl
theorem Rows.small {n : Nat} {N : List (List Int)} {R : List (List (List Int))} (h : Rows n N R) (hn : n ≤ 24) : R.length ≤ 1000000 ∧ (∀ x ∈ R, x.length ≤ 1000000) ∧ ∀ x ∈ R, ∀ y ∈ x, y.length ≤ 1000000 := by
  refine ⟨by have := h.len; omega, fun x hx => ?_, fun x hx y hy => ?_⟩
  · obtain ⟨u, hu, rfl⟩ := mem_getD (d := []) hx
    rw [h.len] at hu
    have := h.row u hu
    omega
  · obtain ⟨u, hu, rfl⟩ := mem_getD (d := []) hx
    rw [h.len] at hu
    obtain ⟨v, hv, rfl⟩ := mem_getD (d := []) hy
    rw [h.row u hu] at hv
    have := (h.rt u v hu hv).len
    unfold rtAt at this
    omega
end Kx
namespace Kx
open PySem PySem.Spec L2 Da
/-- from x to y by nodes that are not in r (x itself may be) -/
inductive Av (N : List (List Int)) (r : List Int) : Int → Int → Prop
  | refl (x : Int) : Av N r x x
  | step {x c y : Int} (h : c ∈ nb N x) (hr : c ∉ r) (t : Av N r c y) : Av N r x y
section
variable {n : Nat} {N : List (List Int)}
theorem Av.split {r : List Int} {b : Int} : ∀ {x v : Int}, Av N r x v → Av N (r ++ [b]) x v ∨ (b = v ∨ ∃ c, c ∈ nb N b ∧ c ∉ r ++ [b] ∧ Av N (r ++ [b]) c v)
  | _, _, .refl x => .inl (.refl x)
  | x, v, .step (c := c) h hr t => by
    rcases Av.split (b := b) t with z | z
    · by_cases e : c = b
      · subst e
        right
        cases z with
        | refl => exact .inl rfl
        | step h2 hr2 t2 => exact .inr ⟨_, h2, hr2, t2⟩
      · exact .inl (.step h (fun m => by
          rcases List.mem_append.mp m with m | m
          · exact hr m
          · exact e (List.mem_singleton.mp m)) z)
    · exact .inr z
/-- behind the next node -/
theorem Av.next {r : List Int} {b v : Int} (h : Av N r b v) : b = v ∨ ∃ c, c ∈ nb N b ∧ c ∉ r ++ [b] ∧ Av N (r ++ [b]) c v := by
  rcases h.split (b := b) with z | z
  · cases z with
    | refl => exact .inl rfl
    | step h2 hr2 t2 => exact .inr ⟨_, h2, hr2, t2⟩
  · exact z
/-- a route under way to v -/
structure Fr (n : Nat) (N : List (List Int)) (u v : Int) (i : Nat) (r : List Int) : Prop where
  len : r.length = i + 1
  hd : r.head? = some u
  nd : r.Nodup
  rg : ∀ x ∈ r, Nd n x
  st : Stp N r
theorem Fr.one {u v : Int} (hu : Nd n u) : Fr n N u v 0 [u] := ⟨rfl, rfl, by simp, fun x hx => by rw [List.mem_singleton.mp hx]; exact hu, Stp.one⟩
theorem Fr.snoc {u v : Int} {i : Nat} {r : List Int} {a b : Int} (hN : Near n N) (h : Fr n N u v i r) (hl : r.getLast? = some a) (hb : b ∈ nb N a) (hr : b ∉ r) : Fr n N u v (i + 1) (r ++ [b]) := by
  have ha : a ∈ r := List.mem_of_getLast? hl
  refine ⟨by rw [List.length_append, h.len]; rfl, ?_, ?_, fun x hx => ?_, h.st.snoc hl hb⟩
  · have := h.hd
    cases r with
    | nil => cases this
    | cons x r => exact this
  · rw [List.nodup_append]
    exact ⟨h.nd, by simp, fun x hx y hy e => hr (by rw [← List.mem_singleton.mp hy, ← e]; exact hx)⟩
  · rcases List.mem_append.mp hx with z | z
    · exact h.rg x z
    · rw [List.mem_singleton.mp z]
      exact (hN.rng a b (h.rg a ha) hb).1
end
end Kx
namespace Kx
open PySem PySem.Spec L2 Da
def dst (row : List (Option Int)) (x : Int) : Option Int := row.getD x.toNat none
end Kx
namespace Kx
open PySem PySem.Spec L2 Da
section
variable {n : Nat} {N : List (List Int)}
/-- a route under way: the potential falls -/
structure Dr (n : Nat) (N : List (List Int)) (P : Int → Int) (u v : Int) (i : Nat) (r : List Int) : Prop where
  fr : Fr n N u v i r
  lo : ∀ a, r.getLast? = some a → ∀ x ∈ r, P a ≤ P x
theorem Dr.one {P : Int → Int} {u v : Int} (hu : Nd n u) : Dr n N P u v 0 [u] := ⟨Fr.one hu, fun a ha x hx => by cases ha; rw [List.mem_singleton.mp hx]; exact Int.le_refl _⟩
theorem Dr.snoc {P : Int → Int} {u v : Int} {i : Nat} {r : List Int} {a b : Int} (hN : Near n N) (h : Dr n N P u v i r) (hl : r.getLast? = some a) (hb : b ∈ nb N a) (hp : P b < P a) : Dr n N P u v (i + 1) (r ++ [b]) := by
  have hr : b ∉ r := fun m => by have := h.lo a hl b m; omega
  refine ⟨h.fr.snoc hN hl hb hr, fun c hc x hx => ?_⟩
  rw [List.getLast?_concat] at hc
  cases hc
  rcases List.mem_append.mp hx with z | z
  · have := h.lo a hl x z; omega
  · rw [List.mem_singleton.mp z]; exact Int.le_refl _
/-- a walk from x to the goal of this price -/
inductive Wk (N : List (List Int)) (p : Int → Int → Int) (g : Int) : Nat → Int → Int → Prop
  | nil : Wk N p g 0 g 0
  | step {k : Nat} {x c w : Int} (h : c ∈ nb N x) (t : Wk N p g k c w) : Wk N p g (k + 1) x (p x c + w)
/-- the same without coming back -/
inductive Ws (N : List (List Int)) (p : Int → Int → Int) (g : Int) : List Int → Int → Int → Prop
  | nil : Ws N p g [g] g 0
  | step {r : List Int} {x c w : Int} (h : c ∈ nb N x) (hr : x ∉ r) (t : Ws N p g r c w) : Ws N p g (x :: r) x (p x c + w)
theorem Ws.mem {p : Int → Int → Int} {g : Int} : ∀ {r : List Int} {x w : Int}, Ws N p g r x w → r.Nodup ∧ x ∈ r
  | _, _, _, .nil => ⟨by simp, by simp⟩
  | _, _, _, .step h hr t => ⟨List.nodup_cons.mpr ⟨hr, (Ws.mem t).1⟩, by simp⟩
theorem Ws.rg (hN : Near n N) {p : Int → Int → Int} {g : Int} (hg : Nd n g) : ∀ {r : List Int} {x w : Int}, Ws N p g r x w → Nd n x → ∀ y ∈ r, Nd n y
  | _, _, _, .nil, _ => fun y hy => by rw [List.mem_singleton.mp hy]; exact hg
  | _, _, _, .step h hr t, hx => fun y hy => by
    rcases List.mem_cons.mp hy with z | z
    · rw [z]; exact hx
    · exact Ws.rg hN hg t (hN.rng _ _ hx h).1 y z
end
end Kx
namespace Kx
open PySem PySem.Spec L2 Da
section
variable {n : Nat} {N : List (List Int)}
theorem Wk.nn {p : Int → Int → Int} {g : Int} (hp : ∀ x c, 0 ≤ p x c) : ∀ {k : Nat} {x w : Int}, Wk N p g k x w → 0 ≤ w
  | _, _, _, .nil => Int.le_refl _
  | _, _, _, .step (x := x) (c := c) h t => by
    have := Wk.nn hp t
    have := hp x c
    omega
def Le (n : Nat) (r' r : List (Option Int)) : Prop := ∀ x, Nd n x → ∀ d, dst r x = some d → ∃ e, dst r' x = some e ∧ e ≤ d
theorem Le.rfl {r : List (Option Int)} : Le n r r := fun x _ d h => ⟨d, h, Int.le_refl _⟩
theorem Le.tr {a b c : List (Option Int)} (h : Le n a b) (k : Le n b c) : Le n a c := fun x hx d e => by
  obtain ⟨e1, h1, l1⟩ := k x hx d e
  obtain ⟨e2, h2, l2⟩ := h x hx e1 h1
  exact ⟨e2, h2, by omega⟩
end
end Kx
namespace Kx
open PySem PySem.Spec L2 Da
section
variable {n : Nat} {N : List (List Int)}
theorem getD_set {α : Type} {xs : List α} {i j : Nat} {x d : α} (h : i < xs.length) : (xs.set i x).getD j d = if i = j then x else xs.getD j d := by
  rw [List.getD_eq_getElem?_getD, List.getD_eq_getElem?_getD, List.getElem?_set]
  by_cases e : i = j
  · subst e; rw [if_pos rfl, if_pos h, if_pos rfl]; rfl
  · rw [if_neg e, if_neg e]
end
end Kx
namespace Kx
open PySem PySem.Spec L2 Da
theorem digs_at {sizes row : List Int} (h : Digs sizes row) {i : Nat} {s : Int} (hs : sizes[i]? = some s) : 0 ≤ row.getD i 0 ∧ row.getD i 0 < s := by
  obtain ⟨r, e, h0, h1⟩ := h.get hs
  rw [List.getD_eq_getElem?_getD, e]
  exact ⟨h0, h1⟩
theorem count_nd {α : Type} [BEq α] [LawfulBEq α] {l : List α} {a : α} (h : l.Nodup) : (a ∈ l → l.count a = 1) ∧ (a ∉ l → l.count a = 0) := by
  refine ⟨fun m => ?_, fun m => List.count_eq_zero.mpr m⟩
  induction l with
  | nil => cases m
  | cons x l ih =>
    have h := List.nodup_cons.mp h
    rw [List.count_cons]
    rcases List.mem_cons.mp m with e | e
    · subst e
      rw [List.count_eq_zero.mpr h.1]
      simp
    · rw [ih h.2 e]
      have ne : x ≠ a := fun z => h.1 (by rw [z]; exact e)
      simp [ne]
theorem enum_upto {α : Type} (d : α) (xs : List α) : enumI 0 xs = (upto xs.length).map fun v => (v, xs.getD v.toNat d) := by
  refine List.ext_getElem? fun i => ?_
  by_cases hi : i < xs.length
  · rw [List.getElem?_map, upto_at hi]
    have hi2 : i < (enumI 0 xs).length := by rw [enumI_length]; exact hi
    have e := List.getElem?_eq_getElem hi2
    generalize (enumI 0 xs)[i] = p at e
    rw [e]
    obtain ⟨e1, e2⟩ := enumI_at e
    rw [getD_some (d := d) hi] at e2
    injection e2 with e2
    show some p = some ((i : Int), xs.getD ((i : Int)).toNat d)
    rw [Int.toNat_natCast, e2]
    congr 1
    exact Prod.ext (by rw [e1]; congr 1; omega) rfl
  · rw [List.getElem?_eq_none_iff.mpr (by rw [enumI_length]; omega), List.getElem?_eq_none_iff.mpr (by rw [List.length_map, upto_length]; omega)]
section
variable {n : Nat} {N : List (List Int)} {R : List (List (List Int))}
theorem Rows.mem (h : Rows n N R) {row : List (List Int)} (hr : row ∈ R) : row.length = n ∧ ∀ r ∈ row, r ≠ [] ∧ r.length ≤ n := by
  obtain ⟨u, hu, rfl⟩ := mem_getD (d := []) hr
  rw [h.len] at hu
  refine ⟨h.row u hu, fun r hr => ?_⟩
  obtain ⟨v, hv, rfl⟩ := mem_getD (d := []) hr
  rw [h.row u hu] at hv
  have := h.rt u v hu hv
  exact ⟨this.ne, this.len⟩
end
end Kx
namespace Kx
open PySem PySem.Spec L2 Da
/-- a place: a node or a lane -/
def Plc (pl : List Int) : Prop := (∃ a, pl = [a]) ∨ ∃ a b, pl = [a, b]
theorem Plc.len {pl : List Int} (h : Plc pl) : pl.length ≤ 2 := by rcases h with ⟨a, rfl⟩ | ⟨a, b, rfl⟩ <;> simp
theorem frozen_li {r : List Int} (h : r.length ≤ 1000000) : N_frozen_li r = .ok r := by
  unfold N_frozen_li
  simp only [Res.bind_ret]
  exact (lcR_map (g := fun x => x) h fun x _ => rfl).trans (by rw [List.map_id'])
end Kx
namespace Kx
open PySem PySem.Spec L2 Da
variable {n : Nat} {N R : List (List (List Int))} {H : List (List Int)} {L : List (Int × Int)} {pl : List Int}
def hAt (H : List (List Int)) (u v : Int) : Int := (H.getD u.toNat []).getD v.toNat 0
end Kx
namespace Kx
open PySem PySem.Spec L2 Da
variable {n : Nat} {R : List (List Int)} {O : List (Option Int)}
/-- who came to each goal, as a row -/
def Came (n : Nat) (C : List (Int × Option Int)) (A : List (Option Int)) : Prop := A.length = n ∧ ∀ g, Gn n g → ow A g = (dlookN C g).getD none
theorem Came.none {C : List (Int × Option Int)} {A : List (Option Int)} {s : Int} {W : List (Option Int)} (h : Came n C A) (cm : Cm n R O s C W) {g : Int} (hg : Gn n g) : ow A g = none ↔ g ∉ ky C := by
  rw [h.2 g hg]
  constructor
  · intro e z
    obtain ⟨p, hp, rfl⟩ := List.mem_map.mp z
    obtain ⟨k, hk⟩ := List.mem_iff_getElem?.mp hp
    obtain ⟨j, w, _, _, e2, _⟩ := cm.frm k p hk
    rw [dlook_at cm.nd hk, e2] at e
    cases e
  · intro z
    rw [dlook_not z]
    rfl
theorem Came.snoc {C : List (Int × Option Int)} {A : List (Option Int)} (h : Came n C A) {g : Int} {x : Option Int} (hg : Gn n g) (hn : g ∉ ky C) : Came n (C ++ [(g, x)]) (A.set g.toNat x) := by
  refine ⟨set_len h.1 _ _, fun k hk => ?_⟩
  rw [ow_set h.1 hg hk, dlook_snoc hn]
  by_cases e : k = g
  · rw [if_pos e, if_pos e.symm]
    rfl
  · rw [if_neg e, if_neg fun z => e z.symm, h.2 k hk]
theorem perm_at' {d : List Int} (hd : d.Perm (upto n)) {u : Int} (hu : Gn n u) : d[u.toNat]? = some (d.getD u.toNat 0) ∧ Gn n (d.getD u.toNat 0) := by
  have dl : d.length = n := by rw [hd.length_eq, upto_length]
  obtain ⟨u0, u1⟩ := hu
  have hl : u.toNat < d.length := by omega
  have e : d[u.toNat]? = some (d.getD u.toNat 0) := by rw [List.getD_eq_getElem?_getD, List.getElem?_eq_getElem hl]; rfl
  exact ⟨e, mem_upto.mp (hd.mem_iff.mp (List.mem_of_getElem? e))⟩
end Kx
namespace Kx
open PySem PySem.Spec L2 Da
variable {n : Nat}
theorem perm_of {d : List Int} (hl : d.length = n) (nd : d.Nodup) (rg : ∀ x ∈ d, Gn n x) : d.Perm (upto n) := by
  refine (List.perm_ext_iff_of_nodup nd upto_nd).mpr fun a => ⟨fun m => mem_upto.mpr (rg a m), fun m => ?_⟩
  refine Classical.byContradiction fun hn => ?_
  have h2 := nd_le (n := n) (List.nodup_cons.mpr ⟨hn, nd⟩) fun x hx => by
    rcases List.mem_cons.mp hx with rfl | hx
    · exact mem_upto.mp m
    · exact rg x hx
  rw [List.length_cons, hl] at h2
  omega
theorem day_inj {d : List Int} (hd : d.Perm (upto n)) {u v : Int} (hu : Gn n u) (hv : Gn n v) (e : d.getD u.toNat 0 = d.getD v.toNat 0) : u = v := by
  have nd : d.Nodup := hd.nodup_iff.mpr upto_nd
  have := nd_ix nd (perm_at' hd hu).1 (by rw [(perm_at' hd hv).1, e])
  obtain ⟨u0, _⟩ := hu
  obtain ⟨v0, _⟩ := hv
  omega
end Kx
namespace Kx
open PySem PySem.Spec L2 Da
def sI {α : Type} (xs : List α) (f : α → Int) : Int := (xs.map f).sum
section
variable {α β : Type}
theorem sI_nil (f : α → Int) : sI [] f = 0 := rfl
theorem sI_cons {x : α} {xs : List α} {f : α → Int} : sI (x :: xs) f = f x + sI xs f := by unfold sI; rw [List.map_cons, List.sum_cons]
theorem sI_app {xs ys : List α} {f : α → Int} : sI (xs ++ ys) f = sI xs f + sI ys f := by unfold sI; rw [List.map_append, List.sum_append]
theorem sI_map {xs : List β} {g : β → α} {f : α → Int} : sI (xs.map g) f = sI xs fun x => f (g x) := by unfold sI; rw [List.map_map]; rfl
theorem sI_congr {xs : List α} {f g : α → Int} (h : ∀ x ∈ xs, f x = g x) : sI xs f = sI xs g := by unfold sI; rw [List.map_congr_left h]
theorem sI_zero (xs : List α) : sI xs (fun _ => 0) = 0 := by
  induction xs with
  | nil => rfl
  | cons x xs ih => rw [sI_cons, ih]; rfl
theorem sI_add (xs : List α) (f g : α → Int) : sI xs (fun x => f x + g x) = sI xs f + sI xs g := by
  induction xs with
  | nil => rfl
  | cons x xs ih => rw [sI_cons, sI_cons, sI_cons, ih]; omega
theorem sI_mul (c : Int) (xs : List α) (f : α → Int) : sI xs (fun x => c * f x) = c * sI xs f := by
  induction xs with
  | nil => exact (Int.mul_zero c).symm
  | cons x xs ih => rw [sI_cons, sI_cons, ih, Int.mul_add]
theorem sI_swap (xs : List α) (ys : List β) (f : α → β → Int) : sI xs (fun x => sI ys (f x)) = sI ys (fun y => sI xs fun x => f x y) := by
  induction xs with
  | nil => exact (sI_zero ys).symm
  | cons x xs ih =>
    rw [sI_cons, ih, ← sI_add]
    exact sI_congr fun y _ => (sI_cons (f := fun x => f x y)).symm
theorem sI_le {xs : List α} {f g : α → Int} (h : ∀ x ∈ xs, f x ≤ g x) : sI xs f ≤ sI xs g := by
  induction xs with
  | nil => exact Int.le_refl _
  | cons x xs ih =>
    have h1 := h x List.mem_cons_self
    have h2 := ih fun y hy => h y (List.mem_cons_of_mem _ hy)
    rw [sI_cons, sI_cons]
    omega
theorem sI_nn {xs : List α} {f : α → Int} (h : ∀ x ∈ xs, 0 ≤ f x) : 0 ≤ sI xs f := by
  have := sI_le (f := fun _ => 0) h
  rw [sI_zero] at this
  exact this
theorem sI_eq {xs : List α} {f g : α → Int} (h : ∀ x ∈ xs, f x ≤ g x) : sI xs f = sI xs g ↔ ∀ x ∈ xs, f x = g x := by
  induction xs with
  | nil => exact ⟨fun _ x m => (nomatch m), fun _ => rfl⟩
  | cons x xs ih =>
    have h1 := h x List.mem_cons_self
    have h3 : ∀ y ∈ xs, f y ≤ g y := fun y hy => h y (List.mem_cons_of_mem _ hy)
    have h2 := sI_le h3
    have ih := ih h3
    rw [sI_cons, sI_cons]
    constructor
    · intro e y hy
      rcases List.mem_cons.mp hy with rfl | hy
      · omega
      · exact ih.mp (by omega) y hy
    · intro e
      have e1 := e x List.mem_cons_self
      have e2 := ih.mpr fun y hy => e y (List.mem_cons_of_mem _ hy)
      omega
theorem sI_const (xs : List α) (c : Int) : sI xs (fun _ => c) = (xs.length : Int) * c := by
  induction xs with
  | nil => exact (Int.zero_mul c).symm
  | cons x xs ih =>
    rw [sI_cons, ih, List.length_cons, Int.natCast_add, Int.add_mul]
    omega
theorem sI_filter (xs : List α) (p : α → Bool) (f : α → Int) : sI (xs.filter p) f = sI xs fun x => if p x = true then f x else 0 := by
  induction xs with
  | nil => rfl
  | cons x xs ih =>
    rw [sI_cons]
    by_cases c : p x = true
    · rw [List.filter_cons_of_pos c, sI_cons, ih, if_pos c]
    · rw [List.filter_cons_of_neg c, ih, if_neg c]
      omega
theorem sI_perm {xs ys : List α} (h : xs.Perm ys) (f : α → Int) : sI xs f = sI ys f := by
  induction h with
  | nil => rfl
  | cons x _ ih => rw [sI_cons, sI_cons, ih]
  | swap x y l => rw [sI_cons, sI_cons, sI_cons, sI_cons]; omega
  | trans _ _ ih1 ih2 => exact ih1.trans ih2
theorem sI_sub [DecidableEq α] {xs ys : List α} (nx : xs.Nodup) (ny : ys.Nodup) (h : ∀ x ∈ xs, x ∈ ys) (f : α → Int) : sI xs f = sI ys fun y => if decide (y ∈ xs) = true then f y else 0 := by
  rw [← sI_filter]
  refine sI_perm ((List.perm_ext_iff_of_nodup nx (ny.filter _)).mpr fun a => ?_) f
  rw [List.mem_filter, decide_eq_true_iff]
  exact ⟨fun m => ⟨h a m, m⟩, fun m => m.2⟩
end
end Kx
namespace Kx
open PySem PySem.Spec L2 Da
/-- a square -/
structure Sqr (n : Nat) (M : List (List Int)) : Prop where
  len : M.length = n
  row : ∀ r ∈ M, r.length = n
variable {n : Nat} {M : List (List Int)}
theorem Sqr.at_ (h : Sqr n M) {u : Int} (hu : Gn n u) : M[u.toNat]? = some (M.getD u.toNat []) ∧ (M.getD u.toNat []).length = n := by
  obtain ⟨h0, h1⟩ := hu
  have e : M[u.toNat]? = some (M.getD u.toNat []) := by
    rw [List.getD_eq_getElem?_getD, List.getElem?_eq_getElem (show u.toNat < M.length by rw [h.len]; omega)]
    rfl
  exact ⟨e, h.row _ (List.mem_of_getElem? e)⟩
theorem Sqr.ix (h : Sqr n M) {u v : Int} (hu : Gn n u) (hv : Gn n v) : ((ixR M u).bind fun r => ixR r v) = .ok (hAt M u v) := by
  obtain ⟨e, l⟩ := h.at_ hu
  rw [ixR_of hu.1 e]
  dsimp only [Res.bind_ok]
  exact ixR_D 0 hv.1 (by rw [l]; exact hv.2)
theorem Sqr.row_eq (h : Sqr n M) {u : Int} (hu : Gn n u) : M.getD u.toNat [] = (upto n).map fun v => hAt M u v := by
  obtain ⟨_, l⟩ := h.at_ hu
  refine List.ext_getElem? fun i => ?_
  rw [List.getElem?_map]
  by_cases hi : i < n
  · rw [upto_at hi, List.getElem?_eq_getElem (by omega)]
    simp only [Option.map_some]
    unfold hAt
    rw [show (i : Int).toNat = i by omega, List.getD_eq_getElem?_getD (l := M.getD u.toNat []), List.getElem?_eq_getElem (by omega)]
    rfl
  · rw [List.getElem?_eq_none (by omega), List.getElem?_eq_none (by rw [upto_length]; omega)]
    rfl
theorem Sqr.eq (h : Sqr n M) : M = (upto n).map fun u => (upto n).map fun v => hAt M u v := by
  refine List.ext_getElem? fun i => ?_
  rw [List.getElem?_map]
  by_cases hi : i < n
  · have hu : Gn n (i : Int) := ⟨by omega, by omega⟩
    rw [upto_at hi]
    simp only [Option.map_some]
    rw [← h.row_eq hu]
    have := (h.at_ hu).1
    rwa [show (i : Int).toNat = i by omega] at this
  · rw [List.getElem?_eq_none (by rw [h.len]; omega), List.getElem?_eq_none (by rw [upto_length]; omega)]
    rfl
theorem Sqr.ext {A B : List (List Int)} (ha : Sqr n A) (hb : Sqr n B) (h : ∀ u v, Gn n u → Gn n v → hAt A u v = hAt B u v) : A = B := by
  rw [ha.eq, hb.eq]
  exact List.map_congr_left fun u hu => List.map_congr_left fun v hv => h u v (mem_upto.mp hu) (mem_upto.mp hv)
/-- an item exchanged -/
def put2 (M : List (List Int)) (u v x : Int) : List (List Int) := M.set u.toNat ((M.getD u.toNat []).set v.toNat x)
theorem Sqr.put (h : Sqr n M) {u v x : Int} (hu : Gn n u) (hv : Gn n v) : Sqr n (put2 M u v x) ∧ ∀ a b, Gn n a → Gn n b → hAt (put2 M u v x) a b = if a = u ∧ b = v then x else hAt M a b := by
  obtain ⟨eu, lu⟩ := h.at_ hu
  refine ⟨⟨by unfold put2; rw [List.length_set, h.len], fun r hr => ?_⟩, fun a b ha hb => ?_⟩
  · unfold put2 at hr
    rcases List.mem_or_eq_of_mem_set hr with hr | rfl
    · exact h.row r hr
    · rw [List.length_set, lu]
  · obtain ⟨u0, u1⟩ := hu
    obtain ⟨a0, a1⟩ := ha
    obtain ⟨v0, v1⟩ := hv
    obtain ⟨b0, b1⟩ := hb
    unfold put2 hAt
    rw [List.getD_eq_getElem?_getD (l := M.set _ _), List.getElem?_set]
    by_cases e : a = u
    · subst e
      rw [if_pos rfl, if_pos (by rw [h.len]; omega)]
      simp only [Option.getD_some]
      rw [List.getD_eq_getElem?_getD, List.getElem?_set]
      by_cases e2 : b = v
      · subst e2
        rw [if_pos rfl, if_pos (by omega), if_pos (by simp)]
        rfl
      · rw [if_neg (by omega), if_neg fun z => e2 z.2, ← List.getD_eq_getElem?_getD]
    · rw [if_neg (by omega), if_neg fun z => e z.1, ← List.getD_eq_getElem?_getD]
theorem Sqr.aug (h : Sqr n M) {u v : Int} {g : Int → Int} (hu : Gn n u) (hv : Gn n v) : aug2R M u v g = .ok (put2 M u v (g (hAt M u v))) := by
  obtain ⟨eu, lu⟩ := h.at_ hu
  refine aug2R_ok hu.1 eu hv.1 ?_
  unfold hAt
  rw [List.getD_eq_getElem?_getD (l := M.getD _ _), List.getElem?_eq_getElem (by rw [lu]; have := hv.2; have := hv.1; omega)]
  rfl
def rowS (n : Nat) (M : List (List Int)) (u : Int) : Int := sI (upto n) fun v => hAt M u v
def colS (n : Nat) (M : List (List Int)) (v : Int) : Int := sI (upto n) fun u => hAt M u v
theorem Sqr.row_sum (h : Sqr n M) {u : Int} (hu : Gn n u) : (M.getD u.toNat []).sum = rowS n M u := by
  rw [h.row_eq hu]
  rfl
theorem Sqr.rows_sum (h : Sqr n M) : M.map (fun r => r.sum) = (upto n).map (rowS n M) := by
  conv => lhs; rw [h.eq]
  rw [List.map_map]
  rfl
theorem Sqr.col (h : Sqr n M) {v : Int} (hn : n ≤ 1000) (hv : Gn n v) : ((lcR M (fun _ => Res.ok true) (fun x => (ixR x v))).bind fun x15 => (Res.ok x15.sum)) = .ok (colS n M v) := by
  rw [lcR_map (g := fun r => r.getD v.toNat 0) (by rw [h.len]; omega) fun r hr => ixR_D 0 hv.1 (by rw [h.row r hr]; exact hv.2)]
  show Res.ok _ = _
  congr 1
  conv => lhs; rw [h.eq, List.map_map]
  unfold colS sI
  congr 1
  refine List.map_congr_left fun u hu => ?_
  show ((upto n).map fun v => hAt M u v).getD v.toNat 0 = hAt M u v
  have hv0 := hv.1
  have hv1 := hv.2
  rw [List.getD_eq_getElem?_getD, List.getElem?_map, upto_at (show v.toNat < n by omega)]
  simp only [Option.map_some, Option.getD_some]
  rw [show ((v.toNat : Nat) : Int) = v by omega]
/-- no negative item, all lines alike -/
structure EvenS (n : Nat) (s : Int) (M : List (List Int)) : Prop where
  sq : Sqr n M
  nn : ∀ u v, Gn n u → Gn n v → 0 ≤ hAt M u v
  rs : ∀ u, Gn n u → rowS n M u = s
  cs : ∀ v, Gn n v → colS n M v = s
theorem findSome_map {α β γ : Type} (f : α → Option β) (h : β → γ) : ∀ xs : List α, xs.findSome? (fun x => (f x).map h) = (xs.findSome? f).map h
  | [] => rfl
  | x :: xs => by
    rw [List.findSome?_cons, List.findSome?_cons, findSome_map f h xs]
    cases f x <;> rfl
theorem forR_ex {α : Type} {f : Unit → α → Res Unit} {g : α → Option (Str × List (Str × D))} : ∀ {xs : List α}, (∀ x ∈ xs, f () x = match g x with
    | some e => .ex e.1 e.2
    | none => .ok ()) → forR f xs () = match xs.findSome? g with
    | some e => .ex e.1 e.2
    | none => .ok ()
  | [], _ => rfl
  | x :: xs, h => by
    have e : forR f (x :: xs) () = (f () x).bind fun s => forR f xs s := rfl
    rw [e, h x List.mem_cons_self, List.findSome?_cons]
    cases g x with
    | some e => rfl
    | none => exact forR_ex fun y hy => h y (List.mem_cons_of_mem _ hy)
def badE (n : Nat) (M : List (List Int)) : Option (Int × Int) := (upto n).findSome? fun u => (upto n).findSome? fun v => if hAt M u v < 0 then some (u, v) else none
def sums (n : Nat) (M : List (List Int)) : List Int := (upto n).map (rowS n M) ++ (upto n).map (colS n M)
def badL (n : Nat) (M : List (List Int)) : Option Int := (upto (n + n)).findSome? fun k => if (sums n M).getD k.toNat 0 = (sums n M).getD 0 0 then none else some k
theorem sums_len : (sums n M).length = n + n := by unfold sums; rw [List.length_append, List.length_map, List.length_map, upto_length]
theorem check_ok (h : Sqr n M) (n0 : 0 < n) (hn : n ≤ 1000) : N_check_square_tti M = match badE n M with
    | some p => .ex "BadEntry" [("column", D.int p.2), ("row", D.int p.1)]
    | none => (match badL n M with
      | some k => .ex "Uneven" [("index", D.int k)]
      | none => .ok ()) := by
  unfold N_check_square_tti
  rw [h.len, rngR_nat (by omega)]
  dsimp only [Res.bind_ok]
  have e1 : forR (σ := Unit) (fun x1 x2 => (forR (σ := Unit) (fun x3 x4 => ((((ixR M x2).bind fun x5 => (ixR x5 x4)).bind fun x6 => (Res.ok (decide (x6 < 0)))).bind fun x7 => if x7 = true then (Res.ex "BadEntry" [("column", D.int x4), ("row", D.int x2)]) else
      Res.ok ())) (upto n) ()).bind fun x9 => Res.ok ()) (upto n) () = match (badE n M).map fun p => (("BadEntry" : Str), [(("column" : Str), D.int p.2), ("row", D.int p.1)]) with
    | some e => .ex e.1 e.2
    | none => .ok () := by
    rw [forR_ex (g := fun u => ((upto n).findSome? fun v => if hAt M u v < 0 then some (u, v) else none).map fun p : Int × Int => (("BadEntry" : Str), [(("column" : Str), D.int p.2), ("row", D.int p.1)])) fun u hu => ?_]
    · rw [findSome_map]
      rfl
    · have hu := mem_upto.mp hu
      rw [forR_ex (g := fun v => (if hAt M u v < 0 then some (u, v) else none).map fun p : Int × Int => (("BadEntry" : Str), [(("column" : Str), D.int p.2), ("row", D.int p.1)])) fun v hv => ?_, findSome_map]
      · cases ((upto n).findSome? fun v => if hAt M u v < 0 then some (u, v) else none) <;> rfl
      · rw [h.ix hu (mem_upto.mp hv)]
        dsimp only [Res.bind_ok]
        by_cases q : hAt M u v < 0
        · rw [if_pos (decide_eq_true q), if_pos q]
          rfl
        · rw [if_neg (by simpa using q), if_neg q]
          rfl
  rw [e1]
  cases badE n M with
  | some p => rfl
  | none =>
    simp only [Option.map_none, Res.bind_ok]
    rw [lcR_map (xs := M) (f := fun x : List Int => Res.ok x.sum) (g := fun r => r.sum) (by rw [h.len]; omega) fun _ _ => rfl, h.rows_sum]
    simp only [Res.bind_ok]
    rw [lcR_map (xs := upto n) (f := fun x13 => (lcR M (fun x12 => Res.ok true) fun x14 => ixR x14 x13).bind fun x12 => Res.ok x12.sum) (g := colS n M) (by rw [upto_length]; omega) fun v hv => h.col hn (mem_upto.mp hv)]
    simp only [Res.bind_ok]
    rw [catR_ok (by rw [List.length_map, List.length_map, upto_length]; omega)]
    simp only [Res.bind_ok]
    have es : (upto n).map (rowS n M) ++ (upto n).map (colS n M) = sums n M := rfl
    rw [es]
    have i0 : ixR (sums n M) 0 = .ok ((sums n M).getD 0 0) := ixR_D 0 (by omega) (by rw [sums_len]; omega)
    rw [i0, enum_upto 0 (sums n M), sums_len]
    simp only [Res.bind_ok]
    have e2 : forR (σ := Unit) (fun x20 (x21 : Int × Int) => if (!decide (x21.2 = (sums n M).getD 0 0)) = true then (Res.ex "Uneven" [("index", D.int x21.1)]) else Res.ok ()) ((upto (n + n)).map fun v => (v, (sums n M).getD v.toNat 0)) () = match (badL n M).map fun k => (("Uneven" : Str), [(("index" : Str), D.int k)]) with
      | some e => .ex e.1 e.2
      | none => .ok () := by
      rw [forR_ex (g := fun p : Int × Int => (if p.2 = (sums n M).getD 0 0 then none else some p.1).map fun k => (("Uneven" : Str), [(("index" : Str), D.int k)])) fun p hp => ?_, findSome_map, List.findSome?_map]
      · rfl
      · by_cases q : p.2 = (sums n M).getD 0 0
        · rw [if_neg (by simpa using q), if_pos q]
          rfl
        · rw [if_pos (by simpa using q), if_neg q]
          rfl
    rw [e2]
    cases badL n M <;> rfl
end Kx
namespace Kx
open PySem PySem.Spec L2 Da
variable {n : Nat} {M : List (List Int)}
theorem perm_of' {d : List Int} (hl : d.length = n) (nd : d.Nodup) (rg : ∀ x ∈ d, Gn n x) : d.Perm (upto n) := by
  refine (List.perm_ext_iff_of_nodup nd upto_nd).mpr fun a => ⟨fun m => mem_upto.mpr (rg a m), fun m => ?_⟩
  refine Classical.byContradiction fun hn => ?_
  have h2 := nd_le (n := n) (List.nodup_cons.mpr ⟨hn, nd⟩) fun x hx => by
    rcases List.mem_cons.mp hx with rfl | hx
    · exact mem_upto.mp m
    · exact rg x hx
  rw [List.length_cons, hl] at h2
  omega
theorem sI_uniq {α : Type} [DecidableEq α] {xs : List α} {a : α} {p : α → Bool} (nd : xs.Nodup) (ha : a ∈ xs) (h : ∀ x ∈ xs, p x = true ↔ x = a) : sI xs (fun x => if p x = true then 1 else 0) = 1 := by
  rw [← sI_filter xs p fun _ => 1]
  have : xs.filter p = [a] := by
    rw [List.filter_congr (q := fun x => x == a) fun x hx => by rw [Bool.eq_iff_iff, h x hx]; simp]
    rw [List.filter_beq, (count_nd nd).1 ha]
    rfl
  rw [this]
  rfl
theorem sI_less {α : Type} [DecidableEq α] {xs : List α} {a : α} {f g : α → Int} (nd : xs.Nodup) (ha : a ∈ xs) (h : ∀ x ∈ xs, g x = f x - if x = a then 1 else 0) : sI xs g = sI xs f - 1 := by
  have e := sI_uniq (p := fun x => decide (x = a)) nd ha fun x _ => by rw [decide_eq_true_iff]
  have : sI xs g = sI xs fun x => f x + (-1) * (if decide (x = a) = true then 1 else 0) := sI_congr fun x hx => by
    rw [h x hx]
    by_cases q : x = a
    · simp only [q, if_true, decide_true]; omega
    · simp only [q, if_false, decide_false, Bool.false_eq_true]; omega
  rw [this, sI_add, sI_mul, e]
  omega
def goalsP (n : Nat) (M : List (List Int)) : List (List Int) := M.map fun row => (upto n).filter fun v => decide (0 < row.getD v.toNat 0)
theorem goalsP_g (h : Sqr n M) (hn : n ≤ 63) : RowsG n (goalsP n M) := ⟨by unfold goalsP; rw [List.length_map, h.len], fun r hr v hv => by
  unfold goalsP at hr
  obtain ⟨x, _, rfl⟩ := List.mem_map.mp hr
  exact mem_upto.mp (List.mem_filter.mp hv).1, hn⟩
theorem mem_goalsP (h : Sqr n M) {u v : Int} (hu : Gn n u) : v ∈ rowOf (goalsP n M) u ↔ Gn n v ∧ 0 < hAt M u v := by
  obtain ⟨e, l⟩ := h.at_ hu
  unfold rowOf goalsP
  rw [List.getD_eq_getElem?_getD, List.getElem?_map, e]
  simp only [Option.map_some, Option.getD_some]
  rw [List.mem_filter, decide_eq_true_iff]
  exact and_congr mem_upto Iff.rfl
theorem goalsP_ok (h : Sqr n M) (hn : n ≤ 1000) : lcR M (fun x9 => Res.ok true) (fun x9 => (lcR (enumI 0 x9) (fun x10 => Res.ok (decide (0 < x10.2))) (fun x10 => (Res.ok x10.1)))) = .ok (goalsP n M) := by
  unfold goalsP
  refine lcR_map (by rw [h.len]; omega) fun row hr => ?_
  have hl := h.row row hr
  rw [enum_upto 0 row, hl]
  refine Tr.eq (tr_lcf (fun x10 : Int × Int => decide (0 < x10.2)) (fun x10 => x10.1) (by rw [List.length_map, upto_length]; omega) (fun _ _ => Tr.ok rfl) (fun _ _ _ => Tr.ok rfl) ?_)
  rw [List.filter_map, List.map_map]
  exact List.map_id' _
theorem gml {M : List (List Int)} (h : M.length ≤ 1000000) (hr : ∀ r ∈ M, r.length ≤ 1000000) : N_greatest_matching_lli M = gmOf M := by
  unfold N_greatest_matching_lli
  have e1 : N_frozen_lli M = .ok M := by
    unfold N_frozen_lli
    rw [lcR_map (f := fun x1 => N_frozen_li x1) (g := fun x => x) h fun r m => frozen_li (hr r m), List.map_id']
    rfl
  rw [e1]
  rfl
/-- a square with all lines alike has a day of positive items -/
theorem partners_ok' {t : Int} (h : EvenS n t M) (n0 : 0 < n) (hn : n ≤ 63) (ht : 0 < t) : ∃ d : List Int, N_perfect_partners_lli (goalsP n M) = .ok (some (d.map some)) ∧ d.Perm (upto n) ∧ ∀ u, Gn n u → 0 < hAt M u (d.getD u.toNat 0) := by
  have hG := goalsP_g h.sq hn
  obtain ⟨⟨p, c, ss, gs⟩, e, m⟩ := gm_ok hG
  dsimp only at m
  have hc : (n : Int) ≤ c := by
    -- the cover holds all items
    have h1 : (n : Int) * t = sI (upto n) fun u => sI (upto n) fun v => hAt M u v := by
      rw [sI_congr (f := fun u => sI (upto n) fun v => hAt M u v) (g := fun _ => t) fun u hu => h.rs u (mem_upto.mp hu), sI_const, upto_length]
    have h2 : (sI (upto n) fun u => sI (upto n) fun v => hAt M u v) ≤ (sI (upto n) fun u => sI (upto n) fun v => (if decide (u ∈ ss) = true then hAt M u v else 0) + (if decide (v ∈ gs) = true then hAt M u v else 0)) := by
      refine sI_le fun u hu => sI_le fun v hv => ?_
      have hu := mem_upto.mp hu
      have hv := mem_upto.mp hv
      have nn := h.nn u v hu hv
      by_cases q : 0 < hAt M u v
      · rcases m.cov u v hu ((mem_goalsP h.sq hu).mpr ⟨hv, q⟩) with z | z
        · rw [if_pos (decide_eq_true z)]
          split <;> omega
        · rw [if_pos (decide_eq_true z)]
          split <;> omega
      · split <;> split <;> omega
    have h3 : (sI (upto n) fun u => sI (upto n) fun v => (if decide (u ∈ ss) = true then hAt M u v else 0) + (if decide (v ∈ gs) = true then hAt M u v else 0)) = (ss.length : Int) * t + (gs.length : Int) * t := by
      rw [sI_congr fun u _ => sI_add _ _ _, sI_add]
      congr 1
      · rw [sI_congr (g := fun u => if decide (u ∈ ss) = true then t else 0) fun u hu => ?_, ← sI_sub (asc_nd m.sa) upto_nd (fun x hx => mem_upto.mpr (m.sn x hx)) fun _ => t, sI_const]
        by_cases q : decide (u ∈ ss) = true
        · rw [if_pos q, sI_congr (g := fun v => hAt M u v) fun v _ => if_pos q]
          exact h.rs u (mem_upto.mp hu)
        · rw [if_neg q, sI_congr (g := fun _ => 0) fun v _ => if_neg q, sI_zero]
      · rw [sI_swap, sI_congr (g := fun v => if decide (v ∈ gs) = true then t else 0) fun v hv => ?_, ← sI_sub (asc_nd m.ga) upto_nd (fun x hx => mem_upto.mpr (m.gn x hx)) fun _ => t, sI_const]
        by_cases q : decide (v ∈ gs) = true
        · rw [if_pos q, sI_congr (g := fun u => hAt M u v) fun u _ => if_pos q]
          exact h.cs v (mem_upto.mp hv)
        · rw [if_neg q, sI_congr (g := fun _ => 0) fun u _ => if_neg q, sI_zero]
    have h4 : (n : Int) * t ≤ c * t := by
      rw [h1, ← m.tot, Int.add_mul, ← h3]
      exact h2
    exact Int.le_of_mul_le_mul_right h4 ht
  have all : ∀ u, Gn n u → (ow p u).isSome = true := by
    have hf := List.length_filter_le (fun u => (ow p u).isSome) (upto n)
    rw [upto_length] at hf
    have hcn := m.cnt
    have : ((upto n).filter fun u => (ow p u).isSome).length = (upto n).length := by rw [upto_length]; omega
    intro u hu
    exact List.length_filter_eq_length_iff.mp this u (mem_upto.mpr hu)
  refine ⟨(upto n).map fun u => (ow p u).getD 0, ?_, ?_, ?_⟩
  · unfold N_perfect_partners_lli
    rw [gml (by rw [hG.len]; omega) (fun r hr => by
      unfold goalsP at hr
      obtain ⟨x, _, rfl⟩ := List.mem_map.mp hr
      have := List.length_filter_le (fun v => decide (0 < x.getD v.toNat 0)) (upto n)
      rw [upto_length] at this
      omega), e]
    simp only [Res.bind_ok]
    rw [if_neg (by rw [decide_eq_true_iff, m.len]; omega)]
    congr 2
    refine List.ext_getElem? fun i => ?_
    rw [List.getElem?_map, List.getElem?_map]
    by_cases hi : i < n
    · rw [upto_at hi]
      simp only [Option.map_some]
      have := all (i : Int) ⟨by omega, by omega⟩
      have e1 : p[i]? = some (ow p (i : Int)) := by
        unfold ow
        rw [show (i : Int).toNat = i by omega, List.getD_eq_getElem?_getD, List.getElem?_eq_getElem (by rw [m.len]; exact hi)]
        rfl
      rw [e1]
      cases e2 : ow p (i : Int) with
      | none => rw [e2] at this; cases this
      | some v => rfl
    · rw [List.getElem?_eq_none (by rw [m.len]; omega), List.getElem?_eq_none (by rw [upto_length]; omega)]
      rfl
  · have val : ∀ u, Gn n u → ow p u = some ((ow p u).getD 0) := fun u hu => by
      have := all u hu
      cases e2 : ow p u with
      | none => rw [e2] at this; cases this
      | some v => rfl
    refine perm_of' (by rw [List.length_map, upto_length]) ((List.pairwise_map (l := upto n)).mpr ((upto_nd (n := n)).imp_of_mem fun {x y} hx hy hne z => hne ?_)) fun x hx => ?_
    · obtain ⟨u, hu, rfl⟩ := (List.mem_map (l := upto n)).mp hx
      have hu := mem_upto.mp hu
      exact row_mem hG (m.good u _ hu (val u hu))
    · have hx := mem_upto.mp hx
      have hy := mem_upto.mp hy
      have a := val x hx
      have b := val y hy
      rw [z] at a
      exact m.inj x y _ hx hy a b
  · intro u hu
    obtain ⟨u0, u1⟩ := hu
    rw [List.getD_eq_getElem?_getD, List.getElem?_map, upto_at (show u.toNat < n by omega)]
    simp only [Option.map_some, Option.getD_some]
    rw [show ((u.toNat : Nat) : Int) = u by omega]
    have := all u ⟨u0, u1⟩
    cases e2 : ow p u with
    | none => rw [e2] at this; cases this
    | some v => exact ((mem_goalsP h.sq ⟨u0, u1⟩).mp (m.good u v ⟨u0, u1⟩ e2)).2
/-- a day's letters taken away -/
theorem taken {d : List Int} {t : Int} (h : EvenS n t M) (hn : n ≤ 63) (hd : d.Perm (upto n)) (hp : ∀ u, Gn n u → 0 < hAt M u (d.getD u.toNat 0)) : ∃ M', forR (σ := (List (List Int))) (fun x15 (x16 : Int × Int) => (((Res.ok x16.1).bind fun x17 => (nx (Res.ok x16.2)).bind fun x18 => (nx (Res.ok 1)).bind fun x19 => aug2R x15 x17 x18 fun x20 => x20 - x19).bind fun x21 =>
  Res.ok x21)) (enumI 0 d) M = .ok M' ∧ EvenS n (t - 1) M' ∧ ∀ u v, Gn n u → Gn n v → hAt M' u v = hAt M u v - (if d.getD u.toNat 0 = v then 1 else 0) := by
  have dl : d.length = n := by rw [hd.length_eq, upto_length]
  have key : Tr (forR (σ := (List (List Int))) (fun x15 (x16 : Int × Int) => (((Res.ok x16.1).bind fun x17 => (nx (Res.ok x16.2)).bind fun x18 => (nx (Res.ok 1)).bind fun x19 => aug2R x15 x17 x18 fun x20 => x20 - x19).bind fun x21 =>
    Res.ok x21)) (enumI 0 d) M) fun s : List (List Int) => Sqr n s ∧ ∀ u v, Gn n u → Gn n v → hAt s u v = hAt M u v - (if d.getD u.toNat 0 = v then 1 else 0) := by
    refine tr_forR (fun i s => Sqr n s ∧ ∀ u v, Gn n u → Gn n v → hAt s u v = hAt M u v - (if u < i ∧ d.getD u.toNat 0 = v then 1 else 0)) ⟨h.sq, fun u v hu hv => by
        rw [if_neg (fun z => by have := hu.1; omega)]; omega⟩ (fun i x s hx p => ?_) fun s p => ⟨p.1, fun u v hu hv => ?_⟩
    · obtain ⟨e1, e2⟩ := enumI_at hx
      have hil : i < n := by rw [← dl]; exact (List.getElem?_eq_some_iff.mp e2).1
      have e1 : x.1 = (i : Int) := by rw [e1, Nat.zero_add]
      have hi : Gn n (i : Int) := ⟨by omega, by omega⟩
      have ed : d.getD i 0 = x.2 := by rw [List.getD_eq_getElem?_getD, e2]; rfl
      have hxv : Gn n x.2 := by
        have := (perm_at' hd hi).2
        rwa [show (i : Int).toNat = i by omega, ed] at this
      obtain ⟨ps, pa⟩ := p
      simp only [Res.bind_ok, nx_ok]
      rw [e1, ps.aug hi hxv]
      obtain ⟨q1, q2⟩ := ps.put (x := hAt s (i : Int) x.2 - 1) hi hxv
      refine Tr.ok ⟨q1, fun u v hu hv => ?_⟩
      rw [q2 u v hu hv, pa u v hu hv]
      by_cases c1 : u = (i : Int)
      · subst c1
        rw [show (i : Int).toNat = i by omega, ed]
        by_cases c2 : v = x.2
        · rw [if_pos ⟨rfl, c2⟩, if_pos ⟨by omega, c2.symm⟩, pa _ _ hi hxv, if_neg (fun z => by omega), c2]
          omega
        · rw [if_neg (fun z => c2 z.2), if_neg (fun z => by omega), if_neg (fun z => c2 z.2.symm)]
      · rw [if_neg (fun z => c1 z.1)]
        congr 1
        by_cases c2 : d.getD u.toNat 0 = v
        · by_cases c3 : u < (i : Int)
          · rw [if_pos ⟨c3, c2⟩, if_pos ⟨by omega, c2⟩]
          · rw [if_neg (fun z => c3 z.1), if_neg (fun z => by omega)]
        · rw [if_neg (fun z => c2 z.2), if_neg (fun z => c2 z.2)]
    · rw [p.2 u v hu hv]
      congr 1
      have : u < (((enumI 0 d).length : Nat) : Int) := by rw [enumI_length, dl]; exact hu.2
      by_cases c2 : d.getD u.toNat 0 = v
      · rw [if_pos ⟨this, c2⟩, if_pos c2]
      · rw [if_neg (fun z => c2 z.2), if_neg c2]
  obtain ⟨M', e, hq, ha⟩ := key
  refine ⟨M', e, ⟨hq, fun u v hu hv => ?_, fun u hu => ?_, fun v hv => ?_⟩, ha⟩
  · rw [ha u v hu hv]
    have nn := h.nn u v hu hv
    split
    · rename_i q
      have := hp u hu
      rw [q] at this
      omega
    · omega
  · have e1 : sI (upto n) (fun v => hAt M' u v) = sI (upto n) (fun v => hAt M u v) - 1 := sI_less (a := d.getD u.toNat 0) upto_nd (mem_upto.mpr (perm_at' hd hu).2) fun v hv => by
      rw [ha u v hu (mem_upto.mp hv)]
      by_cases q : d.getD u.toNat 0 = v
      · rw [if_pos q, if_pos q.symm]
      · rw [if_neg q, if_neg fun z => q z.symm]
    have e2 : sI (upto n) (fun v => hAt M u v) = t := h.rs u hu
    show sI (upto n) (fun v => hAt M' u v) = t - 1
    rw [e1, e2]
  · have hvd : v ∈ d := hd.mem_iff.mpr (mem_upto.mpr hv)
    obtain ⟨k, hk⟩ := List.mem_iff_getElem?.mp hvd
    have hkl := (List.getElem?_eq_some_iff.mp hk).1
    have e1 : sI (upto n) (fun u => hAt M' u v) = sI (upto n) (fun u => hAt M u v) - 1 := sI_less (a := (k : Int)) upto_nd (mem_upto.mpr ⟨by omega, by omega⟩) fun u hu => by
      have hu := mem_upto.mp hu
      rw [ha u v hu hv]
      by_cases q : d.getD u.toNat 0 = v
      · have nd : d.Nodup := hd.nodup_iff.mpr upto_nd
        have a := (perm_at' hd hu).1
        rw [q] at a
        have := nd_ix nd a hk
        have := hu.1
        rw [if_pos q, if_pos (by omega)]
      · rw [if_neg q, if_neg]
        rintro rfl
        refine q ?_
        rw [show (k : Int).toNat = k by omega, List.getD_eq_getElem?_getD, hk]
        rfl
    have e2 : sI (upto n) (fun u => hAt M u v) = t := h.cs v hv
    show sI (upto n) (fun u => hAt M' u v) = t - 1
    rw [e1, e2]
/-- on how many of the days u sends to v -/
def cntD (ds : List (List Int)) (u v : Int) : Int := ((ds.filter fun d => decide (d.getD u.toNat 0 = v)).length : Int)
theorem cntD_snoc {ds : List (List Int)} {d : List Int} {u v : Int} : cntD (ds ++ [d]) u v = cntD ds u v + if d.getD u.toNat 0 = v then 1 else 0 := by
  unfold cntD
  rw [List.filter_append, List.length_append, List.filter_cons]
  by_cases q : d.getD u.toNat 0 = v
  · rw [if_pos (decide_eq_true q), if_pos q]
    simp
  · rw [if_neg (by simpa using q), if_neg q]
    simp
/-- parted, behind frozen and the check -/
def prt (M : List (List Int)) : Res (List (List Int)) :=
  ((lcR M (fun x3 => Res.ok true) (fun x3 => (Res.ok x3))).bind fun x4 =>
  (((((ixR M 0).bind fun x5 => (Res.ok x5.sum)).bind fun x6 => (rngR x6)).bind fun x23 => (forR (σ := ((List (List Int)) × (List (List Int)))) (fun x7 x8 => ((nx (((lcR x7.1 (fun x9 => Res.ok true) (fun x9 => (lcR (enumI 0 x9) (fun x10 => Res.ok (decide (0 < x10.2))) (fun x10 => (Res.ok x10.1))))).bind fun x11 => (N_perfect_partners_lli x11)).bind fun x12 => nx (unOTO x12))).bind fun x13 =>
  ((appR x7.2 x13).bind fun x14 =>
  ((forR (σ := (List (List Int))) (fun x15 x16 => (((Res.ok x16.1).bind fun x17 => (nx (Res.ok x16.2)).bind fun x18 => (nx (Res.ok 1)).bind fun x19 => aug2R x15 x17 x18 fun x20 => x20 - x19).bind fun x21 =>
  Res.ok x21)) (enumI 0 x13) x7.1).bind fun x22 =>
  Res.ok (x22, x14))))) x23 (x4, []))).bind fun x24 =>
  (Res.ok x24.2)))
theorem parted_l (h : Sqr n M) (hn : n ≤ 1000) : N_parted_lli M = (N_check_square_tti M).bind fun _ => prt M := by
  unfold N_parted_lli
  have e1 : N_frozen_lli M = .ok M := by
    unfold N_frozen_lli
    rw [lcR_map (f := fun x1 => N_frozen_li x1) (g := fun x => x) (by rw [h.len]; omega) fun r m => frozen_li (by rw [h.row r m]; omega), List.map_id']
    rfl
  rw [e1]
  rfl
theorem parted_t (h : Sqr n M) (hn : n ≤ 1000) : N_parted_tti M = (N_check_square_tti M).bind fun _ => prt M := by
  unfold N_parted_tti
  have e1 : N_frozen_tti M = .ok M := by
    unfold N_frozen_tti
    rw [lcR_map (f := fun x1 => N_frozen_ti x1) (g := fun x => x) (by rw [h.len]; omega) fun r m => frozen_t r (by rw [h.row r m]; omega), List.map_id']
    rfl
  rw [e1]
  rfl
theorem prt_ok {s : Int} (h : EvenS n s M) (n0 : 0 < n) (hn : n ≤ 63) (hs : s ≤ 100000) : ∃ ds, prt M = .ok ds ∧ (ds.length : Int) = s ∧ (∀ d ∈ ds, d.Perm (upto n)) ∧ ∀ u v, Gn n u → Gn n v → cntD ds u v = hAt M u v := by
  have g0 : Gn n 0 := ⟨by omega, by omega⟩
  have s0 : 0 ≤ s := by
    rw [← h.rs 0 g0]
    exact sI_nn fun v hv => h.nn 0 v g0 (mem_upto.mp hv)
  obtain ⟨k, rfl⟩ : ∃ k : Nat, s = (k : Int) := ⟨s.toNat, by omega⟩
  unfold prt
  rw [lcR_map (g := fun x => x) (by rw [h.sq.len]; omega) fun _ _ => rfl, List.map_id']
  have e0 : ixR M 0 = .ok (M.getD 0 []) := ixR_D [] (by omega) (by rw [h.sq.len]; omega)
  have es : (M.getD 0 []).sum = (k : Int) := by
    have := h.sq.row_sum g0
    rw [h.rs 0 g0] at this
    exact this
  rw [e0]
  simp only [Res.bind_ok]
  rw [es, rngR_nat (by omega)]
  simp only [Res.bind_ok]
  refine Tr.bind (R := fun ds : List (List Int) => (ds.length : Int) = k ∧ (∀ d ∈ ds, d.Perm (upto n)) ∧ ∀ u v, Gn n u → Gn n v → cntD ds u v = hAt M u v) (tr_forRn (Q := fun x => (x.2.length : Int) = k ∧ (∀ d ∈ x.2, d.Perm (upto n)) ∧ ∀ u v, Gn n u → Gn n v → cntD x.2 u v = hAt M u v)
    (fun i x => EvenS n ((k : Int) - i) x.1 ∧ x.2.length = i ∧ (∀ d ∈ x.2, d.Perm (upto n)) ∧ ∀ u v, Gn n u → Gn n v → hAt x.1 u v + cntD x.2 u v = hAt M u v) ⟨by rw [show (k : Int) - ((0 : Nat) : Int) = k by omega]; exact h, rfl, fun d hd => (nomatch hd), fun u v _ _ => by show hAt M u v + 0 = _; omega⟩ (fun i x hi p => ?_) fun x p => ?_) fun x hx => Tr.ok hx
  · obtain ⟨A, ds⟩ := x
    obtain ⟨pE, pl, pp, pc⟩ := p
    dsimp only at pE pl pp pc ⊢
    rw [goalsP_ok pE.sq (by omega)]
    simp only [Res.bind_ok]
    obtain ⟨d, ed, hd, hpos⟩ := partners_ok' pE n0 hn (by omega)
    rw [ed]
    simp only [Res.bind_ok, unOTO, unTO_some, nx_ok]
    rw [appR_ok (by omega)]
    simp only [Res.bind_ok]
    obtain ⟨M', e, hE, hA⟩ := taken pE hn hd hpos
    refine Tr.bind (Q := fun s => s = M') (Tr.of (by simpa only [Res.bind_ok, nx_ok] using e) rfl) fun s hs => ?_
    rw [hs]
    refine Tr.ok ⟨by rw [show (k : Int) - ((i + 1 : Nat) : Int) = (k : Int) - i - 1 by omega]; exact hE, by dsimp only; rw [List.length_append, pl]; rfl, fun d' hd' => ?_, fun u v hu hv => ?_⟩
    · rcases List.mem_append.mp hd' with z | z
      · exact pp d' z
      · rw [List.mem_singleton] at z
        rw [z]; exact hd
    · dsimp only
      rw [cntD_snoc, hA u v hu hv, ← pc u v hu hv]
      omega
  · obtain ⟨pE, pl, pp, pc⟩ := p
    refine ⟨by rw [pl], pp, fun u v hu hv => ?_⟩
    have z : hAt x.1 u v = 0 := by
      have h1 := pE.rs u hu
      unfold rowS at h1
      have h2 := sI_le (xs := upto n) (f := fun w => if w = v then hAt x.1 u v else 0) (g := fun w => hAt x.1 u w) fun w hw => by
        by_cases q : w = v
        · rw [if_pos q, q]; omega
        · rw [if_neg q]; exact pE.nn u w hu (mem_upto.mp hw)
      have h3 : sI (upto n) (fun w => if w = v then hAt x.1 u v else 0) = hAt x.1 u v := by
        have := sI_uniq (xs := upto n) (a := v) (p := fun w => decide (w = v)) upto_nd (mem_upto.mpr hv) fun w _ => by rw [decide_eq_true_iff]
        rw [sI_congr (g := fun w => hAt x.1 u v * (if decide (w = v) = true then 1 else 0)) fun w _ => ?_, sI_mul, this, Int.mul_one]
        by_cases q : w = v
        · rw [if_pos q, if_pos (decide_eq_true q), Int.mul_one]
        · rw [if_neg q, if_neg (by simpa using q), Int.mul_zero]
      have := pE.nn u v hu hv
      omega
    have := pc u v hu hv
    omega
theorem even_zero (h : EvenS n (rowS n M 0) M) : badE n M = none ∧ badL n M = none := by
  constructor
  · unfold badE
    rw [List.findSome?_eq_none_iff]
    intro u hu
    rw [List.findSome?_eq_none_iff]
    intro v hv
    have := h.nn u v (mem_upto.mp hu) (mem_upto.mp hv)
    rw [if_neg (by omega)]
  · unfold badL
    rw [List.findSome?_eq_none_iff]
    have al : ∀ k : Nat, k < n + n → (sums n M).getD k 0 = rowS n M 0 := fun k hk => by
      unfold sums
      by_cases hkn : k < n
      · rw [List.getD_eq_getElem?_getD, List.getElem?_append_left (by rw [List.length_map, upto_length]; omega), List.getElem?_map, upto_at hkn]
        exact h.rs _ ⟨by omega, by omega⟩
      · rw [List.getD_eq_getElem?_getD, List.getElem?_append_right (by rw [List.length_map, upto_length]; omega), List.length_map, upto_length, List.getElem?_map, upto_at (by omega)]
        exact h.cs _ ⟨by omega, by omega⟩
    intro k hk
    obtain ⟨k0, k1⟩ := mem_upto.mp hk
    rw [al k.toNat (by omega), al 0 (by omega), if_pos rfl]
/-- the square of days -/
theorem parted_ok {s : Int} (h : EvenS n s M) (n0 : 0 < n) (hn : n ≤ 63) (hs : s ≤ 100000) : ∃ ds, N_parted_lli M = .ok ds ∧ N_parted_tti M = .ok ds ∧ (ds.length : Int) = s ∧ (∀ d ∈ ds, d.Perm (upto n)) ∧ ∀ u v, Gn n u → Gn n v → cntD ds u v = hAt M u v := by
  obtain ⟨ds, e, r⟩ := prt_ok h n0 hn hs
  have hr := h.rs 0 ⟨by omega, by omega⟩
  have hE : EvenS n (rowS n M 0) M := by rw [hr]; exact h
  obtain ⟨b1, b2⟩ := even_zero hE
  have ec := check_ok h.sq n0 (by omega)
  rw [b1, b2] at ec
  have ec : N_check_square_tti M = .ok () := ec
  exact ⟨ds, by rw [parted_l h.sq (by omega), ec]; exact e, by rw [parted_t h.sq (by omega), ec]; exact e, r⟩
end Kx
namespace Kx
open PySem PySem.Spec L2 Da
theorem law_digitsL (c : Int) (sizes : List Int) (hp : ∀ s ∈ sizes, 0 < s ∧ s.natAbs < Lim) (hz : sizes.length ≤ 100000) : ∃ row : List Int, N_law_digits_i_li c sizes = .ok row ∧ Digs sizes row := by
  unfold N_law_digits_i_li
  simp only [powR_18, Res.bind_ok, Res.bind_assoc, Res.bind_ret]
  by_cases h : 1000000000000000000 ≤ c
  · rw [if_pos (by simpa using h)]
    obtain ⟨s, e, hd⟩ := forR_inv (xs := sizes) (s := (([] : List Int), c - 1000000000000000000)) (f := fun x5 x4 => (modR x5.2 x4).bind fun x => (appR x5.1 x).bind fun x => (divR x5.2 x4).bind fun x7 => Res.ok (x, x7)) (fun n s => Digs (sizes.take n) s.1) ⟨rfl, fun i s r e => by simp at e⟩ fun i x s hx hd => by
      have hs := hp x (List.mem_of_getElem? hx)
      have hl : s.1.length ≤ 100000 := by have := hd.1; rw [List.length_take] at this; omega
      refine ⟨(s.1 ++ [s.2 % x], s.2 / x), ?_, hd.snoc hx (Int.emod_nonneg _ (by omega)) (Int.emod_lt_of_pos _ hs.1)⟩
      rw [modR_pos hs.1]; dsimp only [Res.bind_ok]; rw [appR_ok (by omega)]; dsimp only [Res.bind_ok]; rw [divR_pos hs.1 hs.2]; rfl
    rw [List.take_length] at hd
    refine ⟨s.1, ?_, hd⟩
    rw [e]; rfl
  · rw [if_neg (by simpa using h), rngR_nat (by omega)]
    dsimp only [Res.bind_ok]
    have hm := Int.emod_nonneg c (show (2147483629 : Int) ≠ 0 by decide)
    have hm2 := Int.emod_lt_of_pos c (show (0 : Int) < 2147483629 by decide)
    obtain ⟨s, e, hd, _, _⟩ := forR_upto (n := sizes.length) (s := (([] : List Int), c % 2147483629)) (f := fun x10 x9 => (mulR x10.2 48271).bind fun x => (mulR 974711 x9).bind fun x_1 => (mulR ((x + x_1 + 12345) % 2147483647) ((x + x_1 + 12345) % 2147483647 / 65537 + 3)).bind fun x_2 => (ixR sizes x9).bind fun x_3 => (modR (x_2 % 2147483629 / 19) x_3).bind fun x_4 => (appR x10.1 x_4).bind fun x_5 => Res.ok (x_5, (x + x_1 + 12345) % 2147483647))
      (fun n s => Digs (sizes.take n) s.1 ∧ 0 ≤ s.2 ∧ s.2 < 2147483647) ⟨⟨rfl, fun i s r e => by simp at e⟩, hm, by omega⟩ fun i s hi hd => by
      obtain ⟨hd, h1, h2⟩ := hd
      have e := List.getElem?_eq_getElem hi
      have hs := hp sizes[i] (List.mem_of_getElem? e)
      have hl : s.1.length ≤ 100000 := by have := hd.1; rw [List.length_take] at this; omega
      generalize hs' : (s.2 * 48271 + 974711 * (i : Int) + 12345) % 2147483647 = s'
      have b1 : 0 ≤ s' := by rw [← hs']; exact Int.emod_nonneg _ (by decide)
      have b2 : s' < 2147483647 := by rw [← hs']; exact Int.emod_lt_of_pos _ (by decide)
      have b3 : 0 ≤ s' / 65537 ∧ s' / 65537 < 40000 := by omega
      refine ⟨(s.1 ++ [s' * (s' / 65537 + 3) % 2147483629 / 19 % sizes[i]], s'), ?_, hd.snoc e (Int.emod_nonneg _ (by omega)) (Int.emod_lt_of_pos _ hs.1), b1, b2⟩
      rw [mulR_64 (by omega) (by omega)]; dsimp only [Res.bind_ok]
      rw [mulR_64 (by omega) (by omega)]; dsimp only [Res.bind_ok]
      rw [hs', mulR_64 (by omega) (by omega)]; dsimp only [Res.bind_ok]
      rw [ixR_nat e]; dsimp only [Res.bind_ok]
      rw [modR_pos hs.1]; dsimp only [Res.bind_ok]
      rw [appR_ok (by omega)]; rfl
    rw [List.take_length] at hd
    refine ⟨s.1, ?_, hd⟩
    rw [e]; rfl
theorem lim_pow {n k : Nat} (h : n < 2 ^ k) (hk : k ≤ 9000) : n < Lim := Nat.lt_of_lt_of_le h (Nat.pow_le_pow_right (by decide) hk)
theorem powR_40 : powR 10 40 = .ok (10 ^ 40) := powR_of (stuck_iff.mpr (by omega)) rfl
end Kx
namespace Kx
open PySem PySem.Spec L2 Da
variable {n : Nat} {A C : Int} {day p q r : List Int}
def gt (l : List Int) (u : Int) : Int := l.getD u.toNat 0
theorem gt_ix {l : List Int} {u : Int} (hl : l.length = n) (hu : Gn n u) : ixR l u = .ok (gt l u) := ixR_D 0 hu.1 (by rw [hl]; exact hu.2)
theorem gt_at {l : List Int} {u : Int} (hl : l.length = n) (hu : Gn n u) : l[u.toNat]? = some (gt l u) := by
  have := hu.2
  have := hu.1
  unfold gt
  rw [List.getD_eq_getElem?_getD, List.getElem?_eq_getElem (by omega)]
  rfl
theorem gt_set {l : List Int} {u w x : Int} (hl : l.length = n) (hu : Gn n u) (hw : 0 ≤ w) : gt (l.set u.toNat x) w = if w = u then x else gt l w := by
  have := hu.2
  have := hu.1
  unfold gt
  rw [getD_set (by omega)]
  by_cases e : w = u
  · rw [if_pos e, if_pos (by omega)]
  · rw [if_neg e, if_neg (by omega)]
theorem gt_map {l : List Int} (hl : l.length = n) : l = (upto n).map (gt l) := by
  refine List.ext_getElem? fun i => ?_
  rw [List.getElem?_map]
  by_cases hi : i < n
  · rw [upto_at hi]
    exact gt_at (u := (i : Int)) hl ⟨by omega, by omega⟩
  · rw [List.getElem?_eq_none (by omega), List.getElem?_eq_none (by rw [upto_length]; omega)]
    rfl
theorem perm_inj {f : Int → Int} (rg : ∀ u, Gn n u → Gn n (f u)) (inj : ∀ u v, Gn n u → Gn n v → f u = f v → u = v) : ((upto n).map f).Perm (upto n) := by
  refine perm_of (by rw [List.length_map, upto_length]) ?_ fun x hx => ?_
  · refine (List.pairwise_map (l := upto n)).mpr ((upto_nd (n := n)).imp_of_mem fun {x y} hx hy hne z => hne ?_)
    exact inj x y (mem_upto.mp hx) (mem_upto.mp hy) z
  · obtain ⟨u, hu, rfl⟩ := (List.mem_map (l := upto n)).mp hx
    exact rg u (mem_upto.mp hu)
theorem surj_inj {f : Int → Int} (rg : ∀ u, Gn n u → Gn n (f u)) (inj : ∀ u v, Gn n u → Gn n v → f u = f v → u = v) {w : Int} (hw : Gn n w) : ∃ u, Gn n u ∧ f u = w := by
  have := (perm_inj rg inj).mem_iff.mpr (mem_upto.mpr hw)
  obtain ⟨u, hu, e⟩ := (List.mem_map (l := upto n)).mp this
  exact ⟨u, mem_upto.mp hu, e⟩
theorem perm_len {l : List Int} (h : l.Perm (upto n)) : l.length = n := by rw [h.length_eq, upto_length]
theorem perm_gn {l : List Int} (h : l.Perm (upto n)) {u : Int} (hu : Gn n u) : Gn n (gt l u) := (perm_at' h hu).2
theorem perm_gi {l : List Int} (h : l.Perm (upto n)) {u v : Int} (hu : Gn n u) (hv : Gn n v) (e : gt l u = gt l v) : u = v := day_inj h hu hv e
theorem perm_gs {l : List Int} (h : l.Perm (upto n)) {w : Int} (hw : Gn n w) : ∃ u, Gn n u ∧ gt l u = w := surj_inj (fun _ => perm_gn h) (fun _ _ => perm_gi h) hw
theorem perm_g {l : List Int} (hl : l.length = n) (rg : ∀ u, Gn n u → Gn n (gt l u)) (inj : ∀ u v, Gn n u → Gn n v → gt l u = gt l v → u = v) : l.Perm (upto n) := by
  rw [gt_map hl]
  exact perm_inj rg inj
structure Dm (n : Nat) (A C : Int) : Prop where
  a0 : 0 < A
  c0 : 0 < C
  ac : A * C = n
  sm : n ≤ 24
theorem Dm.sw (h : Dm n A C) : Dm n C A := ⟨h.c0, h.a0, by rw [Int.mul_comm]; exact h.ac, h.sm⟩
theorem Dm.cl (h : Dm n A C) : C ≤ 24 := by
  have h1 := h.a0
  have h2 := h.c0
  have h3 := h.sm
  have : 1 * C ≤ A * C := Int.mul_le_mul_of_nonneg_right (by omega) (by omega)
  have := h.ac
  omega
theorem Dm.al (h : Dm n A C) : A ≤ 24 := h.sw.cl
theorem Dm.mul (h : Dm n A C) : mulR A C = .ok (n : Int) := by
  have h1 := h.a0
  have h2 := h.c0
  have h3 := h.al
  have h4 := h.cl
  rw [mulR_64 (by omega) (by omega), h.ac]
theorem Dm.md (h : Dm n A C) (x : Int) : modR x C = .ok (x % C) := modR_pos h.c0
theorem Dm.dv (h : Dm n A C) (x : Int) : divR x C = .ok (x / C) := divR_64 h.c0 (by have := h.cl; omega)
/-- the place of row a, column b -/
theorem Dm.pl (h : Dm n A C) {a b : Int} (ha : 0 ≤ a ∧ a < A) (hb : 0 ≤ b ∧ b < C) : Gn n (a * C + b) ∧ (a * C + b) % C = b ∧ (a * C + b) / C = a := by
  have h1 : 0 ≤ a * C := Int.mul_nonneg ha.1 (by omega)
  have h2 : (a + 1) * C ≤ A * C := Int.mul_le_mul_of_nonneg_right (by omega) (by omega)
  rw [Int.add_mul, h.ac] at h2
  refine ⟨⟨by omega, by omega⟩, ?_, ?_⟩
  · rw [Int.add_comm, Int.add_mul_emod_self_right, Int.emod_eq_of_lt hb.1 hb.2]
  · rw [Int.add_comm, Int.add_mul_ediv_right _ _ (by omega), Int.ediv_eq_zero_of_lt hb.1 hb.2, Int.zero_add]
theorem Dm.rc (h : Dm n A C) {u : Int} (hu : Gn n u) : (0 ≤ u / C ∧ u / C < A) ∧ (0 ≤ u % C ∧ u % C < C) ∧ u / C * C + u % C = u := by
  have c0 := h.c0
  have e := Int.ediv_mul_add_emod u C
  refine ⟨⟨Int.ediv_nonneg hu.1 (by omega), ?_⟩, ⟨Int.emod_nonneg _ (by omega), Int.emod_lt_of_pos _ c0⟩, e⟩
  refine Int.ediv_lt_of_lt_mul c0 ?_
  rw [h.ac]
  exact hu.2
def Go (C : Int) (day p q r : List Int) (u : Int) : Prop := gt p u % C = u % C ∧ gt q (gt p u) / C = gt p u / C ∧ gt r (gt q (gt p u)) % C = gt q (gt p u) % C ∧ gt r (gt q (gt p u)) = gt day u
structure Rt3 (n : Nat) (C : Int) (day p q r : List Int) : Prop where
  pp : p.Perm (upto n)
  pq : q.Perm (upto n)
  pr : r.Perm (upto n)
  go : ∀ u, Gn n u → Go C day p q r u
def isPB (n : Nat) (l : List Int) : Bool := decide ((l.length : Int) = n) && decide (l.mergeSort leI = upto n)
theorem isPB_iff {l : List Int} : isPB n l = true ↔ l.Perm (upto n) := by
  unfold isPB
  rw [Bool.and_eq_true, decide_eq_true_iff, decide_eq_true_iff]
  constructor
  · rintro ⟨_, e⟩
    rw [← e]
    exact (List.mergeSort_perm l leI).symm
  · intro h
    exact ⟨by rw [perm_len h], sort_perm h⟩
theorem upto_copy {k : Nat} (h : k ≤ 1000) : ((rngR (k : Int)).bind fun x5 => lcR x5 (fun x4 => Res.ok true) (fun x4 => (Res.ok x4))) = .ok (upto k) := by
  rw [rngR_nat (by omega)]
  simp only [Res.bind_ok]
  rw [lcR_map (g := fun x => x) (by rw [upto_length]; omega) fun _ _ => rfl, List.map_id']
theorem right_ok (h : Dm n A C) (hd : day.length = n) : Tr (N_law_right_i_i_li_lli A C day [p, q, r]) fun b => b = true ↔ Rt3 n C day p q r := by
  unfold N_law_right_i_i_li_lli
  have n9 := h.sm
  rw [h.mul]
  simp only [Res.bind_ok]
  refine tr_find (fun l => l.Perm (upto n)) (fun b => b = false ∧ ∃ l ∈ [p, q, r], ¬ l.Perm (upto n)) (fun l hl => ?_) (fun hall => ?_) fun b hb => ?_
  · rw [upto_copy (by omega)]
    simp only [Res.bind_ok]
    by_cases h1 : l.Perm (upto n)
    · rw [if_neg (by rw [perm_len h1]; simp), sort_perm h1]
      simp only [Res.bind_ok]
      rw [if_neg (by simp)]
      exact Tr.ok (.inl ⟨by simp, h1⟩)
    · by_cases h2 : (l.length : Int) = n
      · rw [if_neg (by simp [h2])]
        have h3 : ¬ l.mergeSort leI = upto n := fun e => h1 (by rw [← e]; exact (List.mergeSort_perm l leI).symm)
        simp only [Res.bind_ok]
        rw [if_pos (by simp [h3])]
        exact Tr.ok (.inr ⟨false, rfl, rfl, l, hl, h1⟩)
      · rw [if_pos (by simp [h2])]
        simp only [Res.bind_ok, if_true]
        exact Tr.ok (.inr ⟨false, rfl, rfl, l, hl, h1⟩)
  · have hp := hall p (by simp)
    have hq := hall q (by simp)
    have hr := hall r (by simp)
    rw [rngR_nat (by omega)]
    simp only [Res.bind_ok]
    refine tr_find (fun u => Go C day p q r u) (fun b => b = false ∧ ∃ u, Gn n u ∧ ¬ Go C day p q r u) (fun u hu => ?_) (fun hall => ?_) fun b hb => ?_
    · have hu := mem_upto.mp hu
      have i0 : ixR [p, q, r] 0 = .ok p := rfl
      have i1 : ixR [p, q, r] 1 = .ok q := rfl
      have i2 : ixR [p, q, r] 2 = .ok r := rfl
      rw [i0, i1, i2]
      simp only [Res.bind_ok]
      rw [gt_ix (perm_len hp) hu]
      simp only [Res.bind_ok]
      have h1 := perm_gn hp hu
      rw [gt_ix (perm_len hq) h1]
      simp only [Res.bind_ok]
      have h2 := perm_gn hq h1
      rw [gt_ix (perm_len hr) h2, gt_ix hd hu]
      simp only [Res.bind_ok, h.md, h.dv]
      unfold Go
      by_cases c1 : gt p u % C = u % C
      · by_cases c2 : gt q (gt p u) / C = gt p u / C
        · by_cases c3 : gt r (gt q (gt p u)) % C = gt q (gt p u) % C
          · by_cases c4 : gt r (gt q (gt p u)) = gt day u
            · simp only [c1, c2, c3, decide_true, Bool.not_true, Bool.false_eq_true, if_false, Res.bind_ok]
              rw [if_neg (by simp [c4])]
              exact Tr.ok (.inl ⟨rfl, trivial, trivial, trivial, c4⟩)
            · simp only [c1, c2, c3, c4, decide_true, decide_false, Bool.not_true, Bool.not_false, Bool.false_eq_true, if_false, if_true, Res.bind_ok]
              exact Tr.ok (.inr ⟨false, rfl, rfl, u, hu, fun z => c4 z.2.2.2⟩)
          · simp only [c1, c2, c3, decide_true, decide_false, Bool.not_true, Bool.not_false, Bool.false_eq_true, if_false, if_true, Res.bind_ok]
            exact Tr.ok (.inr ⟨false, rfl, rfl, u, hu, fun z => c3 z.2.2.1⟩)
        · simp only [c1, c2, decide_true, decide_false, Bool.not_true, Bool.not_false, Bool.false_eq_true, if_false, if_true, Res.bind_ok]
          exact Tr.ok (.inr ⟨false, rfl, rfl, u, hu, fun z => c2 z.2.1⟩)
      · simp only [c1, decide_true, decide_false, Bool.not_true, Bool.not_false, Bool.false_eq_true, if_false, if_true, Res.bind_ok]
        exact Tr.ok (.inr ⟨false, rfl, rfl, u, hu, fun z => c1 z.1⟩)
    · exact Tr.ok ⟨fun _ => ⟨hp, hq, hr, fun u hu => hall u (mem_upto.mpr hu)⟩, fun _ => rfl⟩
    · obtain ⟨rfl, u, hu, hn⟩ := hb
      exact ⟨fun z => (nomatch z), fun z => (hn (z.go u hu)).elim⟩
  · obtain ⟨rfl, l, hl, hn⟩ := hb
    refine ⟨fun z => (nomatch z), fun z => (hn ?_).elim⟩
    simp only [List.mem_cons, List.not_mem_nil, or_false] at hl
    rcases hl with rfl | rfl | rfl
    · exact z.pp
    · exact z.pq
    · exact z.pr
theorem is_day_at {l : List Int} (hl : l.length ≤ 1000) (hn : n ≤ 1000) : N_is_day_ti_i l (n : Int) = .ok (isPB n l) := by
  unfold N_is_day_ti_i N_is_perm_ti_i
  rw [frozen_t l (by omega)]
  simp only [Res.bind_ok]
  have e : lcR l (fun _ => Res.ok true) (fun _ => Res.ok true) = .ok (l.map fun _ => true) := lcR_map (by omega) fun _ _ => rfl
  rw [e, rngLR_ok (by omega) (by omega)]
  simp only [Res.bind_ok]
  have e2 : (l.map fun _ => true).all id = true := by rw [List.all_map]; simp
  rw [e2]
  unfold isPB
  by_cases h : (l.length : Int) = n
  · rw [if_neg (by simp [h])]
    simp [h]
  · rw [if_pos (by simp [h])]
    simp [h]
theorem keeps1 (h : Dm n A C) {l : List Int} (hl : l.length = n) : Tr (N_keeps_ti_i_i l C 1) fun b => b = true ↔ ∀ u, Gn n u → gt l u % C = u % C := by
  have n9 := h.sm
  unfold N_keeps_ti_i_i
  rw [if_neg (by simp), enum_upto 0 l, hl]
  simp only [h.md, Res.bind_ok]
  rw [lcR_mapp (k := fun v : Int => (v, l.getD v.toNat 0)) (fun v : Int => decide (v % C = gt l v % C)) (by rw [upto_length]; omega) fun v _ => rfl]
  refine Tr.ok ?_
  rw [List.all_map, List.all_eq_true]
  constructor
  · intro z u hu
    exact (of_decide_eq_true (z u (mem_upto.mpr hu))).symm
  · intro z u hu
    exact decide_eq_true (z u (mem_upto.mp hu)).symm
theorem keeps0 (h : Dm n A C) {l : List Int} (hl : l.length = n) : Tr (N_keeps_ti_i_i l C 0) fun b => b = true ↔ ∀ u, Gn n u → gt l u / C = u / C := by
  have n9 := h.sm
  unfold N_keeps_ti_i_i
  rw [if_pos (by simp), enum_upto 0 l, hl]
  simp only [h.dv, Res.bind_ok]
  rw [lcR_mapp (k := fun v : Int => (v, l.getD v.toNat 0)) (fun v : Int => decide (v / C = gt l v / C)) (by rw [upto_length]; omega) fun v _ => rfl]
  refine Tr.ok ?_
  rw [List.all_map, List.all_eq_true]
  constructor
  · intro z u hu
    exact (of_decide_eq_true (z u (mem_upto.mpr hu))).symm
  · intro z u hu
    exact decide_eq_true (z u (mem_upto.mp hu)).symm
theorem legs_tup (hd : day.length ≤ 1000) (hp : p.length ≤ 1000) (hq : q.length ≤ 1000) (hr : r.length ≤ 1000) : N_are_legs_i_i_ti_ptititiq A C day (p, q, r) = N_are_legs_i_i_li_lli A C day [p, q, r] := by
  unfold N_are_legs_i_i_ti_ptititiq N_are_legs_i_i_li_lli
  have e1 : N_frozen_lli [p, q, r] = .ok [p, q, r] := by
    unfold N_frozen_lli
    rw [lcR_map (f := fun x1 => N_frozen_li x1) (g := fun x => x) (by simp) fun r' m => frozen_li (by
      simp only [List.mem_cons, List.not_mem_nil, or_false] at m
      rcases m with rfl | rfl | rfl <;> omega), List.map_id']
    rfl
  have e2 : N_frozen_ptititiq (p, q, r) = .ok [p, q, r] := by
    unfold N_frozen_ptititiq
    rw [lcR_map (f := fun x1 => N_frozen_ti x1) (g := fun x => x) (by simp) fun r' m => frozen_t r' (by
      simp only [List.mem_cons, List.not_mem_nil, or_false] at m
      rcases m with rfl | rfl | rfl <;> omega), List.map_id']
    rfl
  rw [e1, e2, frozen_li (by omega), frozen_t day (by omega)]
theorem legs_ok (h : Dm n A C) (hd : day.length = n) (hp : p.length ≤ 1000) (hq : q.length ≤ 1000) (hr : r.length ≤ 1000) : Tr (N_are_legs_i_i_li_lli A C day [p, q, r]) fun b => b = true ↔ Rt3 n C day p q r := by
  have n9 := h.sm
  unfold N_are_legs_i_i_li_lli
  have e1 : N_frozen_lli [p, q, r] = .ok [p, q, r] := by
    unfold N_frozen_lli
    rw [lcR_map (f := fun x1 => N_frozen_li x1) (g := fun x => x) (by simp) fun r' m => frozen_li (by
      simp only [List.mem_cons, List.not_mem_nil, or_false] at m
      rcases m with rfl | rfl | rfl <;> omega), List.map_id']
    rfl
  rw [e1, frozen_li (by omega), h.mul]
  have e2 : un3R [p, q, r] = .ok (p, q, r) := rfl
  simp only [Res.bind_ok, e2, nx_ok]
  have e3 : lcR [p, q, r] (fun x4 => Res.ok true) (fun x4 => N_is_day_ti_i x4 (n : Int)) = .ok ([p, q, r].map (isPB n)) := lcR_map (by simp) fun l m => is_day_at (by
      simp only [List.mem_cons, List.not_mem_nil, or_false] at m
      rcases m with rfl | rfl | rfl <;> omega) (by omega)
  rw [e3]
  simp only [Res.bind_ok]
  by_cases hall : p.Perm (upto n) ∧ q.Perm (upto n) ∧ r.Perm (upto n)
  · obtain ⟨pp, pq, pr⟩ := hall
    rw [if_neg (by
      have a := isPB_iff.mpr pp
      have b := isPB_iff.mpr pq
      have c := isPB_iff.mpr pr
      simp [a, b, c])]
    obtain ⟨b1, k1, w1⟩ := keeps1 h (perm_len pp)
    obtain ⟨b2, k2, w2⟩ := keeps0 h (perm_len pq)
    obtain ⟨b3, k3, w3⟩ := keeps1 h (perm_len pr)
    rw [k1, k2, k3, enum_upto 0 day, hd]
    simp only [Res.bind_ok]
    rw [lcR_mapp (k := fun v : Int => (v, day.getD v.toNat 0)) (fun v : Int => decide (gt r (gt q (gt p v)) = gt day v)) (by rw [upto_length]; omega) fun v hv => by
      have hv := mem_upto.mp hv
      dsimp only
      have h1 := perm_gn pp hv
      have h2 := perm_gn pq h1
      rw [gt_ix (perm_len pp) hv]
      simp only [Res.bind_ok]
      rw [gt_ix (perm_len pq) h1]
      simp only [Res.bind_ok]
      rw [gt_ix (perm_len pr) h2]
      rfl]
    simp only [Res.bind_ok]
    cases b1 with
    | false =>
      refine Tr.ok ⟨fun z => (nomatch z), fun z => ?_⟩
      have := w1.mpr fun u hu => (z.go u hu).1
      cases this
    | true =>
      have w1 := w1.mp rfl
      cases b2 with
      | false =>
        refine Tr.ok ⟨fun z => (nomatch z), fun z => ?_⟩
        have := w2.mpr fun u hu => by
          obtain ⟨v, hv, rfl⟩ := perm_gs pp hu
          exact (z.go v hv).2.1
        cases this
      | true =>
        have w2 := w2.mp rfl
        cases b3 with
        | false =>
          refine Tr.ok ⟨fun z => (nomatch z), fun z => ?_⟩
          have := w3.mpr fun u hu => by
            obtain ⟨v, hv, rfl⟩ := perm_gs pq hu
            obtain ⟨x, hx, rfl⟩ := perm_gs pp hv
            exact (z.go x hx).2.2.1
          cases this
        | true =>
          have w3 := w3.mp rfl
          refine Tr.ok ?_
          rw [List.all_map, List.all_eq_true]
          constructor
          · intro z
            refine ⟨pp, pq, pr, fun u hu => ⟨w1 u hu, w2 _ (perm_gn pp hu), w3 _ (perm_gn pq (perm_gn pp hu)), ?_⟩⟩
            exact of_decide_eq_true (z u (mem_upto.mpr hu))
          · intro z u hu
            exact decide_eq_true (z.go u (mem_upto.mp hu)).2.2.2
  · rw [if_pos (by
      have : ¬ (isPB n p = true ∧ isPB n q = true ∧ isPB n r = true) := fun z => hall ⟨isPB_iff.mp z.1, isPB_iff.mp z.2.1, isPB_iff.mp z.2.2⟩
      simp only [List.map_cons, List.map_nil, List.all_cons, List.all_nil, id, Bool.and_true]
      cases ep : isPB n p <;> cases eq : isPB n q <;> cases er : isPB n r <;> first | rfl | exact (this ⟨ep, eq, er⟩).elim)]
    exact Tr.ok ⟨fun z => (nomatch z), fun z => (hall ⟨z.pp, z.pq, z.pr⟩).elim⟩
/-- a paper of three lists -/
def Pap (P : List (List Int)) : Prop := ∃ a b c, P = [a, b, c] ∧ a.length ≤ 1000 ∧ b.length ≤ 1000 ∧ c.length ≤ 1000
theorem judged_ok (h : Dm n A C) (hd : day.length = n) {P : List (List Int)} (hP : Pap P) : N_law_judged_i_i_li_lli A C day P = .ok true := by
  have n9 := h.sm
  obtain ⟨a, b, c, rfl, ha, hb, hc⟩ := hP
  unfold N_law_judged_i_i_li_lli
  obtain ⟨b1, e1, w1⟩ := right_ok (p := a) (q := b) (r := c) h hd
  obtain ⟨b2, e2, w2⟩ := legs_ok (p := a) (q := b) (r := c) h hd ha hb hc
  have e3 := (legs_tup (A := A) (C := C) (day := day) (by omega) ha hb hc).trans e2
  have e4 : lcR [a, b, c] (fun x2 => Res.ok true) (fun x2 => (Res.ok x2)) = .ok [a, b, c] := by rw [lcR_map (g := fun x => x) (by simp) fun _ _ => rfl, List.map_id']
  have i0 : ixR [a, b, c] 0 = .ok a := rfl
  have i1 : ixR [a, b, c] 1 = .ok b := rfl
  have i2 : ixR [a, b, c] 2 = .ok c := rfl
  rw [e1, e4, i0, i1, i2]
  simp only [Res.bind_ok]
  rw [e2, e3]
  simp only [Res.bind_ok]
  rw [if_neg (by simp)]
  have : b2 = b1 := by rw [Bool.eq_iff_iff, w1, w2]
  subst this
  cases b2 <;> rfl
end Kx
namespace Kx
open PySem PySem.Spec L2 Da
variable {n : Nat} {A C : Int} {day p q r : List Int}
theorem ixN_gn {i : Int} (hi : Gn n i) : ixN n i = some i.toNat := by
  have := hi.1
  have := hi.2
  unfold ixN
  rw [if_pos (by omega), if_pos (by omega)]
theorem s2_0 {u x : Int} (hp : p.length = n) (hu : Gn n u) : set2R [p, q, r] 0 u x = .ok [p.set u.toNat x, q, r] := by
  unfold set2R
  have e : ixN [p, q, r].length 0 = some 0 := rfl
  rw [e]
  have e2 : [p, q, r][0]? = some p := rfl
  dsimp only
  rw [e2]
  dsimp only
  rw [hp, ixN_gn hu]
  rfl
theorem s2_1 {u x : Int} (hp : q.length = n) (hu : Gn n u) : set2R [p, q, r] 1 u x = .ok [p, q.set u.toNat x, r] := by
  unfold set2R
  have e : ixN [p, q, r].length 1 = some 1 := rfl
  rw [e]
  have e2 : [p, q, r][1]? = some q := rfl
  dsimp only
  rw [e2]
  dsimp only
  rw [hp, ixN_gn hu]
  rfl
theorem s2_2 {u x : Int} (hp : r.length = n) (hu : Gn n u) : set2R [p, q, r] 2 u x = .ok [p, q, r.set u.toNat x] := by
  unfold set2R
  have e : ixN [p, q, r].length 2 = some 2 := rfl
  rw [e]
  have e2 : [p, q, r][2]? = some r := rfl
  dsimp only
  rw [e2]
  dsimp only
  rw [hp, ixN_gn hu]
  rfl
theorem copy3 (a b c : List Int) : lcR [a, b, c] (fun x2 => Res.ok true) (fun x2 => (Res.ok x2)) = .ok [a, b, c] := by rw [lcR_map (g := fun x => x) (by simp) fun _ _ => rfl, List.map_id']
theorem idx_ok (hp : p.Perm (upto n)) {x : Int} (hx : Gn n x) : ∃ i, idxR p x = .ok i ∧ Gn n i := by
  have m : x ∈ p := hp.mem_iff.mpr (mem_upto.mpr hx)
  refine ⟨((p.idxOf x : Nat) : Int), by unfold idxR; rw [if_pos m], by omega, ?_⟩
  have := List.idxOf_lt_length_of_mem m
  rw [perm_len hp] at this
  omega
section
variable (hn : n ≤ 24) (pp : p.Perm (upto n)) (pq : q.Perm (upto n)) (pr : r.Perm (upto n)) {x y : Int} (hx : Gn n x) (hy : Gn n y)
include hn pp pq pr hx hy
theorem rer0 : Tr (N_law_rerouted_lli_i_i_i [p, q, r] 0 x y) Pap := by
  unfold N_law_rerouted_lli_i_i_i
  rw [copy3]
  obtain ⟨i, ei, hi⟩ := idx_ok pp hx
  obtain ⟨j, ej, hj⟩ := idx_ok pp hy
  have lp := perm_len pp
  have lq := perm_len pq
  have lr := perm_len pr
  have i0 : ixR [p, q, r] 0 = .ok p := rfl
  have i1 : ixR [p, q, r] (0 + 1) = .ok q := rfl
  rw [i0, i1]
  simp only [Res.bind_ok]
  rw [ei, ej]
  simp only [Res.bind_ok, nx_ok]
  rw [s2_0 lp hi]
  simp only [Res.bind_ok]
  rw [s2_0 (by rw [List.length_set]; exact lp) hj]
  simp only [Res.bind_ok]
  rw [gt_ix lq hy, gt_ix lq hx]
  simp only [Res.bind_ok]
  rw [show (0 : Int) + 1 = 1 from rfl, s2_1 lq hx]
  simp only [Res.bind_ok]
  rw [s2_1 (by rw [List.length_set]; exact lq) hy]
  exact Tr.ok ⟨_, _, _, rfl, by simp only [List.length_set]; omega, by simp only [List.length_set]; omega, by omega⟩
theorem rer1 : Tr (N_law_rerouted_lli_i_i_i [p, q, r] 1 x y) Pap := by
  unfold N_law_rerouted_lli_i_i_i
  rw [copy3]
  obtain ⟨i, ei, hi⟩ := idx_ok pq hx
  obtain ⟨j, ej, hj⟩ := idx_ok pq hy
  have lp := perm_len pp
  have lq := perm_len pq
  have lr := perm_len pr
  have i0 : ixR [p, q, r] 1 = .ok q := rfl
  have i1 : ixR [p, q, r] (1 + 1) = .ok r := rfl
  rw [i0, i1]
  simp only [Res.bind_ok]
  rw [ei, ej]
  simp only [Res.bind_ok, nx_ok]
  rw [s2_1 lq hi]
  simp only [Res.bind_ok]
  rw [s2_1 (by rw [List.length_set]; exact lq) hj]
  simp only [Res.bind_ok]
  rw [gt_ix lr hy, gt_ix lr hx]
  simp only [Res.bind_ok]
  rw [show (1 : Int) + 1 = 2 from rfl, s2_2 lr hx]
  simp only [Res.bind_ok]
  rw [s2_2 (by rw [List.length_set]; exact lr) hy]
  exact Tr.ok ⟨_, _, _, rfl, by omega, by simp only [List.length_set]; omega, by simp only [List.length_set]; omega⟩
theorem swp (k : Int) (hk : k = 0 ∨ k = 1 ∨ k = 2) : Tr (N_law_swapped_lli_i_i_i [p, q, r] k x y) Pap := by
  unfold N_law_swapped_lli_i_i_i
  rw [copy3]
  have lp := perm_len pp
  have lq := perm_len pq
  have lr := perm_len pr
  have i0 : ixR [p, q, r] 0 = .ok p := rfl
  have i1 : ixR [p, q, r] 1 = .ok q := rfl
  have i2 : ixR [p, q, r] 2 = .ok r := rfl
  rcases hk with rfl | rfl | rfl
  · rw [i0]
    simp only [Res.bind_ok, nx_ok]
    rw [gt_ix lp hx, gt_ix lp hy]
    simp only [Res.bind_ok]
    rw [s2_0 lp hx]
    simp only [Res.bind_ok]
    rw [s2_0 (by rw [List.length_set]; exact lp) hy]
    exact Tr.ok ⟨_, _, _, rfl, by simp only [List.length_set]; omega, by omega, by omega⟩
  · rw [i1]
    simp only [Res.bind_ok, nx_ok]
    rw [gt_ix lq hx, gt_ix lq hy]
    simp only [Res.bind_ok]
    rw [s2_1 lq hx]
    simp only [Res.bind_ok]
    rw [s2_1 (by rw [List.length_set]; exact lq) hy]
    exact Tr.ok ⟨_, _, _, rfl, by omega, by simp only [List.length_set]; omega, by omega⟩
  · rw [i2]
    simp only [Res.bind_ok, nx_ok]
    rw [gt_ix lr hx, gt_ix lr hy]
    simp only [Res.bind_ok]
    rw [s2_2 lr hx]
    simp only [Res.bind_ok]
    rw [s2_2 (by rw [List.length_set]; exact lr) hy]
    exact Tr.ok ⟨_, _, _, rfl, by omega, by omega, by simp only [List.length_set]; omega⟩
omit hx hy
theorem rpl (k : Int) (hk : k = 0 ∨ k = 1 ∨ k = 2) {l : List Int} (hl : l.length ≤ 1000) : Tr (N_law_replaced_lli_i_li [p, q, r] k l) Pap := by
  unfold N_law_replaced_lli_i_li
  rw [copy3]
  have lp := perm_len pp
  have lq := perm_len pq
  have lr := perm_len pr
  have j0 : setR [p, q, r] 0 l = .ok [l, q, r] := rfl
  have j1 : setR [p, q, r] 1 l = .ok [p, l, r] := rfl
  have j2 : setR [p, q, r] 2 l = .ok [p, q, l] := rfl
  rcases hk with rfl | rfl | rfl
  · simp only [Res.bind_ok, j0]
    exact Tr.ok ⟨_, _, _, rfl, hl, by omega, by omega⟩
  · simp only [Res.bind_ok, j1]
    exact Tr.ok ⟨_, _, _, rfl, by omega, hl, by omega⟩
  · simp only [Res.bind_ok, j2]
    exact Tr.ok ⟨_, _, _, rfl, by omega, by omega, hl⟩
end
theorem cut_le27 {α : Type} {xs : List α} {lo hi : Option Int} : (cutN xs lo hi).length ≤ xs.length := by
  unfold cutN
  rw [List.length_take, List.length_drop]
  omega
theorem papers_ok (hn : n ≤ 24) (hd : day.length = n) (pp : p.Perm (upto n)) (pq : q.Perm (upto n)) (pr : r.Perm (upto n)) {k x y z far : Int} (hk : k = 0 ∨ k = 1 ∨ k = 2) (hx : Gn n x) (hy : Gn n y) (hz : Gn n z) : Tr (N_law_papers_lli_li_i_i_i_i_i [p, q, r] day k x y z far) fun Ps => ∀ P ∈ Ps, Pap P := by
  unfold N_law_papers_lli_li_i_i_i_i_i
  have lp := perm_len pp
  have lq := perm_len pq
  have lr := perm_len pr
  rw [hd, upto_copy (by omega)]
  simp only [Res.bind_ok]
  obtain ⟨l, el, hl⟩ : ∃ l, ixR [p, q, r] k = .ok l ∧ l.length = n := by
    rcases hk with rfl | rfl | rfl
    · exact ⟨p, rfl, lp⟩
    · exact ⟨q, rfl, lq⟩
    · exact ⟨r, rfl, lr⟩
  rw [el]
  simp only [Res.bind_ok]
  rw [gt_ix hl hy]
  simp only [Res.bind_ok]
  rw [setR_of hx.1 (by rw [hl]; exact hx.2)]
  simp only [Res.bind_ok]
  rw [lcR_map (g := fun x9 : Int => if x9 = (n : Int) - 1 then (-1) else x9) (by omega) fun x9 _ => by
    by_cases c : x9 = (n : Int) - 1
    · rw [if_pos (by simpa using c), if_pos c]; rfl
    · rw [if_neg (by simpa using c), if_neg c]; rfl]
  simp only [Res.bind_ok]
  rw [setR_of hz.1 (by rw [hl]; exact hz.2)]
  have i0 : ixR [p, q, r] 0 = .ok p := rfl
  have i1 : ixR [p, q, r] 1 = .ok q := rfl
  have i2 : ixR [p, q, r] 2 = .ok r := rfl
  rw [i0, i1, i2]
  simp only [Res.bind_ok]
  obtain ⟨a1, e1, h1⟩ := rer0 hn pp pq pr hx hz
  obtain ⟨a2, e2, h2⟩ := rer0 hn pp pq pr hx hy
  obtain ⟨a3, e3, h3⟩ := rer1 hn pp pq pr hx hz
  obtain ⟨a4, e4, h4⟩ := rer1 hn pp pq pr hx hy
  obtain ⟨a5, e5, h5⟩ := swp hn pp pq pr hx hy 0 (.inl rfl)
  obtain ⟨a6, e6, h6⟩ := swp hn pp pq pr hx hz 1 (.inr (.inl rfl))
  obtain ⟨a7, e7, h7⟩ := swp hn pp pq pr hx hy 2 (.inr (.inr rfl))
  obtain ⟨a8, e8, h8⟩ := rpl hn pp pq pr k hk (l := l.set x.toNat (gt l y)) (by rw [List.length_set]; omega)
  obtain ⟨a9, e9, h9⟩ := rpl hn pp pq pr k hk (l := l.map fun x9 : Int => if x9 = (n : Int) - 1 then (-1) else x9) (by rw [List.length_map]; omega)
  obtain ⟨b1, f1, g1⟩ := rpl hn pp pq pr k hk (l := l.set z.toNat far) (by rw [List.length_set]; omega)
  obtain ⟨b2, f2, g2⟩ := rpl hn pp pq pr k hk (l := cutN l none (some ((n : Int) - 1))) (by have := cut_le27 (xs := l) (lo := none) (hi := some ((n : Int) - 1)); omega)
  obtain ⟨b3, f3, g3⟩ := rpl hn pp pq pr k hk (l := l ++ [(n : Int)]) (by simp; omega)
  obtain ⟨b4, f4, g4⟩ := rpl hn pp pq pr k hk (l := l ++ [x]) (by simp; omega)
  have c1 : catR l [(n : Int)] = .ok (l ++ [(n : Int)]) := catR_ok (by simp; omega)
  have c2 : catR l [x] = .ok (l ++ [x]) := catR_ok (by simp; omega)
  rw [e1, e2, e3, e4, e5, e6, e7, e8, e9, f1, f2, c1, c2]
  simp only [Res.bind_ok]
  rw [f3, f4]
  simp only [Res.bind_ok]
  have lu : (upto n).length = n := upto_length
  have P0 : Pap [p, q, r] := ⟨_, _, _, rfl, by omega, by omega, by omega⟩
  have P1 : Pap [r, q, p] := ⟨_, _, _, rfl, by omega, by omega, by omega⟩
  have P2 : Pap [upto n, day, upto n] := ⟨_, _, _, rfl, by omega, by omega, by omega⟩
  have P3 : Pap [day, upto n, upto n] := ⟨_, _, _, rfl, by omega, by omega, by omega⟩
  have P4 : Pap [upto n, upto n, day] := ⟨_, _, _, rfl, by omega, by omega, by omega⟩
  rw [catR_ok (by simp)]
  simp only [Res.bind_ok]
  rw [catR_ok (by simp)]
  simp only [Res.bind_ok]
  rw [catR_ok (by simp)]
  simp only [Res.bind_ok]
  rw [catR_ok (by simp)]
  simp only [Res.bind_ok]
  rw [catR_ok (by simp)]
  refine Tr.ok fun P hP => ?_
  simp only [List.cons_append, List.nil_append, List.mem_cons, List.not_mem_nil, or_false] at hP
  rcases hP with h | h | h | h | h | h | h | h | h | h | h | h | h | h | h | h | h | h <;> (rw [h]; assumption)
end Kx
namespace Kx
open PySem PySem.Spec L2 Da
theorem law_day27 {n : Nat} {r : List Int} (hn : n ≤ 1000000) (hr : n ≤ r.length) (h0 : ∀ x ∈ r, 0 ≤ x) : ∃ p : List Int, N_law_day27_i_li n r = .ok p ∧ p.Perm (upto n) := by
  unfold N_law_day27_i_li
  rw [rngR_nat (by omega)]
  simp only [Res.bind_ok, Res.bind_assoc, Res.bind_ret]
  rw [lcR_map (g := fun x => x) (by rw [upto_length]; exact hn) (fun _ _ => rfl), List.map_id']
  dsimp only [Res.bind_ok]
  obtain ⟨s, e, hp, hl⟩ := forR_upto (n := n) (s := (upto n, ([] : List Int))) (f := fun x4 x5 => (nx ((nx ((ixR r x5).bind fun x => modR x (x4.1.length : Int))).bind fun x8 => popR x4.1 x8)).bind fun v => (appR x4.2 v.1).bind fun x => Res.ok (v.2, x))
    (fun i s => (s.2 ++ s.1).Perm (upto n) ∧ s.2.length = i) ⟨List.Perm.refl _, rfl⟩ fun i s hi hp => by
      obtain ⟨hp, hl⟩ := hp
      have hL := hp.length_eq
      rw [List.length_append, upto_length] at hL
      have a := List.getElem?_eq_getElem (show i < r.length by omega)
      have hri := h0 _ (List.getElem_mem (show i < r.length by omega))
      have hz : 0 ≤ r[i]'(by omega) % (s.1.length : Int) ∧ r[i]'(by omega) % (s.1.length : Int) < s.1.length := ⟨Int.emod_nonneg _ (by omega), Int.emod_lt_of_pos _ (by omega)⟩
      rw [ixR_nat a]; dsimp only [Res.bind_ok]
      rw [modR_pos (by omega)]; dsimp only [Res.bind_ok, nx_ok]
      rw [popR_of hz.1 hz.2 (by omega)]; dsimp only [Res.bind_ok, nx_ok]
      rw [appR_ok (by omega)]
      refine ⟨_, rfl, ?_, by dsimp only; rw [List.length_append, hl]; rfl⟩
      dsimp only
      rw [List.append_assoc]
      exact (List.Perm.append_left s.2 (take_out' (by omega))).trans hp
  rw [e]
  refine ⟨s.2, rfl, ?_⟩
  have hL := hp.length_eq
  rw [List.length_append, upto_length] at hL
  have : s.1 = [] := List.eq_nil_of_length_eq_zero (by omega)
  rw [this, List.append_nil] at hp
  exact hp
variable {n : Nat} {M : List (List Int)}
theorem drop_cut27 {α : Type} {xs : List α} {k : Nat} (h : k ≤ xs.length) : cutN xs (some (k : Int)) none = xs.drop k := by
  unfold cutN
  rw [HT.sIx_none, HT.sIx_nat, Nat.min_eq_left h]
  refine List.take_of_length_le ?_
  rw [List.length_drop]
  omega
variable {n : Nat} {A C : Int} {day p q r : List Int}
theorem pj_ok (h : Dm n A C) (hd : day.length = n) (pp : p.Perm (upto n)) (pq : q.Perm (upto n)) (pr : r.Perm (upto n)) {row : List Int} (hr : 7 ≤ row.length) (r4 : 0 ≤ gt row 4 ∧ gt row 4 < 4) (r6 : 0 ≤ gt row 6 ∧ gt row 6 < 3) : N_law_papers_judged_i_i_li_lli_li A C day [p, q, r] row = .ok true := by
  have n9 := h.sm
  have a0 := h.a0
  have c0 := h.c0
  have al := h.al
  have cl := h.cl
  have ri : ∀ k : Int, 0 ≤ k → k < 7 → ixR row k = .ok (gt row k) := fun k k0 k7 => gt_ix (n := row.length) rfl ⟨k0, by omega⟩
  unfold N_law_papers_judged_i_i_li_lli_li
  rw [ri 0 (by omega) (by omega), ri 1 (by omega) (by omega), ri 2 (by omega) (by omega), ri 3 (by omega) (by omega), ri 4 (by omega) (by omega), ri 5 (by omega) (by omega), ri 6 (by omega) (by omega)]
  simp only [Res.bind_ok]
  rw [modR_pos a0, modR_pos c0]
  simp only [Res.bind_ok]
  generalize ha : gt row 0 % A = a
  generalize hb : gt row 1 % C = b
  have ha1 : 0 ≤ a ∧ a < A := by rw [← ha]; exact ⟨Int.emod_nonneg _ (by omega), Int.emod_lt_of_pos _ a0⟩
  have hb1 : 0 ≤ b ∧ b < C := by rw [← hb]; exact ⟨Int.emod_nonneg _ (by omega), Int.emod_lt_of_pos _ c0⟩
  rw [mulR_64 (by omega) (by omega)]
  simp only [Res.bind_ok]
  have m1 : (0 : Int) < (if (A - 1) > 1 then (A - 1) else 1) := by split <;> omega
  have m2 : (0 : Int) < (if (C - 1) > 1 then (C - 1) else 1) := by split <;> omega
  rw [modR_pos m1, modR_pos m2]
  simp only [Res.bind_ok]
  rw [modR_pos a0, modR_pos c0]
  simp only [Res.bind_ok]
  generalize ha2 : (a + 1 + gt row 2 % (if (A - 1) > 1 then (A - 1) else 1)) % A = a'
  generalize hb2 : (b + 1 + gt row 3 % (if (C - 1) > 1 then (C - 1) else 1)) % C = b'
  have ha3 : 0 ≤ a' ∧ a' < A := by rw [← ha2]; exact ⟨Int.emod_nonneg _ (by omega), Int.emod_lt_of_pos _ a0⟩
  have hb3 : 0 ≤ b' ∧ b' < C := by rw [← hb2]; exact ⟨Int.emod_nonneg _ (by omega), Int.emod_lt_of_pos _ c0⟩
  rw [mulR_64 (i := a') (by omega) (by omega), h.mul]
  simp only [Res.bind_ok]
  rw [ixR_D 0 r4.1 (by have := r4.2; simp; omega)]
  simp only [Res.bind_ok]
  generalize ([gt row 5, -1 - gt row 5, (n : Int), gt row 5 % 24].getD (gt row 4).toNat 0) = far
  have hx := (h.pl ha1 hb1).1
  have hy := (h.pl ha3 hb1).1
  have hz := (h.pl ha1 hb3).1
  obtain ⟨Ps, ep, hp⟩ := papers_ok (far := far) n9 hd pp pq pr (k := gt row 6) (by omega) hx hy hz
  rw [ep]
  simp only [Res.bind_ok]
  refine Tr.eq (tr_all (fun P hP => ?_) ?_)
  · rw [judged_ok h hd (hp P hP)]
    exact Tr.ok rfl
  · have lp := perm_len pp
    have lq := perm_len pq
    have lr := perm_len pr
    rw [judged_ok h.sw hd ⟨_, _, _, rfl, by omega, by omega, by omega⟩]
    simp only [Res.bind_ok]
    rw [if_neg (by simp), gt_ix hd hx, gt_ix hd hy]
    simp only [Res.bind_ok]
    rw [setR_of hx.1 (by rw [hd]; exact hx.2)]
    simp only [Res.bind_ok]
    rw [setR_of hy.1 (by rw [List.length_set, hd]; exact hy.2)]
    simp only [Res.bind_ok]
    rw [judged_ok h (by rw [List.length_set, List.length_set, hd]) ⟨_, _, _, rfl, by omega, by omega, by omega⟩]
    exact Tr.ok rfl
def CP (n : Nat) (C : Int) (i : Int) (p : List Int) : Prop := ∀ u, Gn n u → u % C < i → Gn n (gt p u) ∧ gt p u % C = u % C ∧ ∀ v, Gn n v → v % C = u % C → gt p u = gt p v → u = v
def RP (n : Nat) (C : Int) (i : Int) (p : List Int) : Prop := ∀ u, Gn n u → u / C < i → Gn n (gt p u) ∧ gt p u / C = u / C ∧ ∀ v, Gn n v → v / C = u / C → gt p u = gt p v → u = v
theorem CP.perm (h : Dm n A C) (hl : p.length = n) (c : CP n C C p) : p.Perm (upto n) := by
  refine perm_g hl (fun u hu => (c u hu (h.rc hu).2.1.2).1) fun u v hu hv e => ?_
  obtain ⟨_, c2, c3⟩ := c u hu (h.rc hu).2.1.2
  obtain ⟨_, d2, _⟩ := c v hv (h.rc hv).2.1.2
  exact c3 v hv (by rw [← d2, ← e, c2]) e
theorem RP.perm (h : Dm n A C) (hl : p.length = n) (c : RP n C A p) : p.Perm (upto n) := by
  refine perm_g hl (fun u hu => (c u hu (h.rc hu).1.2).1) fun u v hu hv e => ?_
  obtain ⟨_, c2, c3⟩ := c u hu (h.rc hu).1.2
  obtain ⟨_, d2, _⟩ := c v hv (h.rc hv).1.2
  exact c3 v hv (by rw [← d2, ← e, c2]) e
theorem at_pl (h : Dm n A C) {w a b : Int} (hw : Gn n w) (e1 : w / C = a) (e2 : w % C = b) : w = a * C + b := by
  have := (h.rc hw).2.2
  rw [e1, e2] at this
  exact this.symm
theorem col_step (h : Dm n A C) {i : Int} (hi : 0 ≤ i ∧ i < C) {goals p' : List Int} (hg : goals.Perm (upto A.toNat)) (cp : CP n C i p) (e : ∀ w, Gn n w → gt p' w = if w % C = i then gt goals (w / C) * C + i else gt p w) : CP n C (i + 1) p' := by
  have a0 := h.a0
  have gg : ∀ {a : Int}, 0 ≤ a ∧ a < A → 0 ≤ gt goals a ∧ gt goals a < A := fun {a} ha => by
    have := perm_gn hg (u := a) ⟨ha.1, by omega⟩
    exact ⟨this.1, by have := this.2; omega⟩
  intro u hu hui
  rw [e u hu]
  by_cases c : u % C = i
  · rw [if_pos c]
    have ru := (h.rc hu).1
    obtain ⟨z1, z2, z3⟩ := h.pl (gg ru) hi
    refine ⟨z1, by rw [z2, c], fun v hv hc ev => ?_⟩
    have rv := (h.rc hv).1
    rw [e v hv, if_pos (by rw [hc, c])] at ev
    have := congrArg (· / C) ev
    rw [z3, (h.pl (gg rv) hi).2.2] at this
    have := perm_gi hg (u := u / C) (v := v / C) ⟨ru.1, by omega⟩ ⟨rv.1, by omega⟩ this
    rw [at_pl h hu rfl c, at_pl h hv rfl (hc.trans c), this]
  · rw [if_neg c]
    obtain ⟨z1, z2, z3⟩ := cp u hu (by omega)
    refine ⟨z1, z2, fun v hv hc ev => ?_⟩
    rw [e v hv, if_neg (by rw [hc]; exact c)] at ev
    exact z3 v hv hc ev
theorem row_step (h : Dm n A C) {i : Int} (hi : 0 ≤ i ∧ i < A) {goals p' : List Int} (hg : goals.Perm (upto C.toNat)) (cp : RP n C i p) (e : ∀ w, Gn n w → gt p' w = if w / C = i then i * C + gt goals (w % C) else gt p w) : RP n C (i + 1) p' := by
  have c0 := h.c0
  have gg : ∀ {a : Int}, 0 ≤ a ∧ a < C → 0 ≤ gt goals a ∧ gt goals a < C := fun {a} ha => by
    have := perm_gn hg (u := a) ⟨ha.1, by omega⟩
    exact ⟨this.1, by have := this.2; omega⟩
  intro u hu hui
  rw [e u hu]
  by_cases c : u / C = i
  · rw [if_pos c]
    have ru := (h.rc hu).2.1
    obtain ⟨z1, z2, z3⟩ := h.pl hi (gg ru)
    refine ⟨z1, by rw [z3, c], fun v hv hc ev => ?_⟩
    have rv := (h.rc hv).2.1
    rw [e v hv, if_pos (by rw [hc, c])] at ev
    have := congrArg (· % C) ev
    rw [z2, (h.pl hi (gg rv)).2.1] at this
    have := perm_gi hg (u := u % C) (v := v % C) ⟨ru.1, by omega⟩ ⟨rv.1, by omega⟩ this
    rw [at_pl h hu c rfl, at_pl h hv (hc.trans c) rfl, this]
  · rw [if_neg c]
    obtain ⟨z1, z2, z3⟩ := cp u hu (by omega)
    refine ⟨z1, z2, fun v hv hc ev => ?_⟩
    rw [e v hv, if_neg (by rw [hc]; exact c)] at ev
    exact z3 v hv hc ev
/-- one cell more -/
theorem cell_col (h : Dm n A C) {i j x : Int} {f g : Int → Int} {p' : List Int} (hi : 0 ≤ i ∧ i < C) (hj : 0 ≤ j ∧ j < A) (hl : p'.length = n) (hx : x = f j) (e : ∀ w, Gn n w → gt p' w = if w % C = i ∧ w / C < j then f (w / C) else g w) : ∀ w, Gn n w → gt (p'.set (j * C + i).toNat x) w = if w % C = i ∧ w / C < j + 1 then f (w / C) else g w := by
  intro w hw
  obtain ⟨z1, z2, z3⟩ := h.pl hj hi
  rw [gt_set hl z1 hw.1]
  by_cases c : w = j * C + i
  · rw [if_pos c, c, z2, z3, if_pos ⟨rfl, by omega⟩, hx]
  · rw [if_neg c, e w hw]
    by_cases c2 : w % C = i ∧ w / C < j
    · rw [if_pos c2, if_pos ⟨c2.1, by omega⟩]
    · rw [if_neg c2, if_neg]
      rintro ⟨c3, c4⟩
      have : w / C = j := by
        have : ¬ w / C < j := fun z => c2 ⟨c3, z⟩
        omega
      exact c (at_pl h hw this c3)
theorem cell_row (h : Dm n A C) {i j x : Int} {f g : Int → Int} {p' : List Int} (hi : 0 ≤ i ∧ i < A) (hj : 0 ≤ j ∧ j < C) (hl : p'.length = n) (hx : x = f j) (e : ∀ w, Gn n w → gt p' w = if w / C = i ∧ w % C < j then f (w % C) else g w) : ∀ w, Gn n w → gt (p'.set (i * C + j).toNat x) w = if w / C = i ∧ w % C < j + 1 then f (w % C) else g w := by
  intro w hw
  obtain ⟨z1, z2, z3⟩ := h.pl hi hj
  rw [gt_set hl z1 hw.1]
  by_cases c : w = i * C + j
  · rw [if_pos c, c, z2, z3, if_pos ⟨rfl, by omega⟩, hx]
  · rw [if_neg c, e w hw]
    by_cases c2 : w / C = i ∧ w % C < j
    · rw [if_pos c2, if_pos ⟨c2.1, by omega⟩]
    · rw [if_neg c2, if_neg]
      rintro ⟨c3, c4⟩
      have : w % C = j := by
        have : ¬ w % C < j := fun z => c2 ⟨c3, z⟩
        omega
      exact c (at_pl h hw c3 this)
theorem zeros3 (h : Dm n A C) : ((rngR 3).bind fun x5 => lcR x5 (fun x1 => Res.ok true) (fun x1 => (((mulR A C).bind fun x2 => (rngR x2)).bind fun x4 => lcR x4 (fun x3 => Res.ok true) (fun x3 => (Res.ok (0 : Int)))))) = .ok [(upto n).map fun _ => 0, (upto n).map fun _ => 0, (upto n).map fun _ => 0] := by
  have n9 := h.sm
  have e3 : rngR 3 = .ok (upto 3) := rngR_nat (n := 3) (by omega)
  rw [e3, h.mul]
  simp only [Res.bind_ok]
  rw [rngR_nat (by omega)]
  simp only [Res.bind_ok]
  rw [lcR_map (g := fun _ => (upto n).map fun _ => (0 : Int)) (by rw [upto_length]; omega) fun _ _ => lcR_map (by rw [upto_length]; omega) fun _ _ => rfl]
  rfl
theorem cut_row {o : List Int} (ho : o.length = 24) (h0 : ∀ x ∈ o, 0 ≤ x) {k : Int} {m : Nat} (k0 : 0 ≤ k) (hk : k + m ≤ 24) : m ≤ (cutN o (some k) none).length ∧ ∀ x ∈ cutN o (some k) none, 0 ≤ x := by
  have e : cutN o (some k) none = o.drop k.toNat := by
    obtain ⟨j, rfl⟩ : ∃ j : Nat, k = (j : Int) := ⟨k.toNat, by omega⟩
    have := drop_cut27 (xs := o) (k := j) (by omega)
    rw [this]
    rfl
  rw [e, List.length_drop]
  exact ⟨by omega, fun x hx => h0 x (List.mem_of_mem_drop hx)⟩
theorem drawn_ok (h : Dm n A C) {o t w : List Int} (ho : o.length = 24) (o0 : ∀ x ∈ o, 0 ≤ x) (ht : t.length = 24) (t0 : ∀ x ∈ t, 0 ≤ x) (hw : w.length = 24) (w0 : ∀ x ∈ w, 0 ≤ x) : Tr (N_law_drawn_legs_i_i_li_li_li A C o t w) fun L => ∃ p q r, L = [p, q, r] ∧ p.Perm (upto n) ∧ q.Perm (upto n) ∧ r.Perm (upto n) := by
  have n9 := h.sm
  have a0 := h.a0
  have c0 := h.c0
  have al := h.al
  have cl := h.cl
  have ac := h.ac
  unfold N_law_drawn_legs_i_i_li_li_li
  rw [zeros3 h, rngR_ok (j := C) (by omega) (by omega), rngR_ok (j := A) (by omega) (by omega)]
  simp only [Res.bind_ok]
  refine Tr.bind (Q := fun L => ∃ p q r, L = [p, q, r] ∧ p.Perm (upto n) ∧ q.length = n ∧ r.Perm (upto n)) (tr_forRn (fun i L => ∃ p q r : List Int, L = [p, q, r] ∧ p.length = n ∧ q.length = n ∧ r.length = n ∧ CP n C i p ∧ CP n C i r) ⟨_, _, _, rfl, by rw [List.length_map, upto_length], by rw [List.length_map, upto_length], by rw [List.length_map, upto_length], fun u hu z => by have := (h.rc hu).2.1.1; omega, fun u hu z => by have := (h.rc hu).2.1.1; omega⟩ (fun i L hi P => ?_) fun L P => ?_) fun L hL => ?_
  · obtain ⟨p, q, r, rfl, lp, lq, lr, cp, cr⟩ := P
    have hib : (0 : Int) ≤ i ∧ (i : Int) < C := ⟨by omega, by omega⟩
    rw [mulR_64 (i := A) (by omega) (by omega)]
    simp only [Res.bind_ok]
    have b1 : A * (i : Int) + A ≤ 24 := by
      have : A * ((i : Int) + 1) ≤ A * C := Int.mul_le_mul_of_nonneg_left (by omega) (by omega)
      rw [Int.mul_add, Int.mul_one] at this
      omega
    have b0 : 0 ≤ A * (i : Int) := Int.mul_nonneg (by omega) (by omega)
    obtain ⟨k1, k2⟩ := cut_row ho o0 (m := A.toNat) b0 (by omega)
    obtain ⟨k3, k4⟩ := cut_row hw w0 (m := A.toNat) b0 (by omega)
    obtain ⟨goals, eg, hg⟩ := law_day27 (n := A.toNat) (by omega) k1 k2
    obtain ⟨ends, ee, he⟩ := law_day27 (n := A.toNat) (by omega) k3 k4
    rw [show ((A.toNat : Nat) : Int) = A by omega] at eg ee
    rw [eg, ee]
    simp only [Res.bind_ok]
    refine Tr.bind (Q := fun L => ∃ p' r' : List Int, L = [p', q, r'] ∧ p'.length = n ∧ r'.length = n ∧ (∀ w, Gn n w → gt p' w = if w % C = i ∧ w / C < A then gt goals (w / C) * C + i else gt p w) ∧ (∀ w, Gn n w → gt r' w = if w % C = i ∧ w / C < A then gt ends (w / C) * C + i else gt r w)) (tr_forRn (fun j L => ∃ p' r' : List Int, L = [p', q, r'] ∧ p'.length = n ∧ r'.length = n ∧ (∀ w, Gn n w → gt p' w = if w % C = i ∧ w / C < j then gt goals (w / C) * C + i else gt p w) ∧ (∀ w, Gn n w → gt r' w = if w % C = i ∧ w / C < j then gt ends (w / C) * C + i else gt r w)) ⟨p, r, rfl, lp, lr, fun w hw => by rw [if_neg]; rintro ⟨_, z⟩; have := (h.rc hw).1.1; omega, fun w hw => by rw [if_neg]; rintro ⟨_, z⟩; have := (h.rc hw).1.1; omega⟩ (fun j L hj P => ?_) fun L P => ?_) fun L hL => ?_
    · obtain ⟨p', r', rfl, lp', lr', e1, e2⟩ := P
      have hja : (0 : Int) ≤ j ∧ (j : Int) < A := ⟨by omega, by omega⟩
      have hjn : Gn A.toNat (j : Int) := ⟨by omega, by omega⟩
      have g1 := perm_gn hg hjn
      have g2 := perm_gn he hjn
      rw [gt_ix (perm_len hg) hjn, gt_ix (perm_len he) hjn]
      simp only [Res.bind_ok]
      rw [mulR_64 (i := gt goals j) (by have := g1.1; have := g1.2; omega) (by omega), mulR_64 (i := gt ends j) (by have := g2.1; have := g2.2; omega) (by omega), mulR_64 (i := (j : Int)) (by omega) (by omega)]
      simp only [Res.bind_ok, nx_ok]
      have z1 := (h.pl hja hib).1
      rw [s2_0 lp' z1]
      simp only [Res.bind_ok]
      rw [s2_2 lr' z1]
      refine Tr.ok ⟨_, _, rfl, by rw [List.length_set, lp'], by rw [List.length_set, lr'], ?_, ?_⟩
      · exact cell_col (f := fun a => gt goals a * C + i) h hib hja lp' rfl e1
      · exact cell_col (f := fun a => gt ends a * C + i) h hib hja lr' rfl e2
    · rw [show ((A.toNat : Nat) : Int) = A by omega] at P
      exact P
    · obtain ⟨p', r', rfl, lp', lr', e1, e2⟩ := hL
      refine Tr.ok ⟨p', q, r', rfl, lp', lq, lr', col_step h hib hg cp fun w hw => ?_, col_step h hib he cr fun w hw => ?_⟩
      · rw [e1 w hw]
        have := (h.rc hw).1.2
        by_cases c : w % C = i
        · rw [if_pos c, if_pos ⟨c, this⟩]
        · rw [if_neg c, if_neg fun z => c z.1]
      · rw [e2 w hw]
        have := (h.rc hw).1.2
        by_cases c : w % C = i
        · rw [if_pos c, if_pos ⟨c, this⟩]
        · rw [if_neg c, if_neg fun z => c z.1]
  · obtain ⟨p, q, r, rfl, lp, lq, lr, cp, cr⟩ := P
    rw [show ((C.toNat : Nat) : Int) = C by omega] at cp cr
    exact ⟨p, q, r, rfl, cp.perm h lp, lq, cr.perm h lr⟩
  · obtain ⟨p, q, r, rfl, pp, lq, pr⟩ := hL
    refine Tr.bind (Q := fun L => ∃ q, L = [p, q, r] ∧ q.Perm (upto n)) (tr_forRn (fun i L => ∃ q : List Int, L = [p, q, r] ∧ q.length = n ∧ RP n C i q) ⟨q, rfl, lq, fun u hu z => by have := (h.rc hu).1.1; omega⟩ (fun i L hi P => ?_) fun L P => ?_) fun L hL => ?_
    · obtain ⟨q, rfl, lq, cq⟩ := P
      have hia : (0 : Int) ≤ i ∧ (i : Int) < A := ⟨by omega, by omega⟩
      rw [mulR_64 (i := C) (by omega) (by omega)]
      simp only [Res.bind_ok]
      have b1 : C * (i : Int) + C ≤ 24 := by
        have : C * ((i : Int) + 1) ≤ C * A := Int.mul_le_mul_of_nonneg_left (by omega) (by omega)
        rw [Int.mul_add, Int.mul_one, Int.mul_comm C A] at this
        omega
      have b0 : 0 ≤ C * (i : Int) := Int.mul_nonneg (by omega) (by omega)
      obtain ⟨k1, k2⟩ := cut_row ht t0 (m := C.toNat) b0 (by omega)
      obtain ⟨goals, eg, hg⟩ := law_day27 (n := C.toNat) (by omega) k1 k2
      rw [show ((C.toNat : Nat) : Int) = C by omega] at eg
      rw [eg]
      simp only [Res.bind_ok]
      refine Tr.bind (Q := fun L => ∃ q' : List Int, L = [p, q', r] ∧ q'.length = n ∧ (∀ w, Gn n w → gt q' w = if w / C = i ∧ w % C < C then i * C + gt goals (w % C) else gt q w)) (tr_forRn (fun j L => ∃ q' : List Int, L = [p, q', r] ∧ q'.length = n ∧ (∀ w, Gn n w → gt q' w = if w / C = i ∧ w % C < j then i * C + gt goals (w % C) else gt q w)) ⟨q, rfl, lq, fun w hw => by rw [if_neg]; rintro ⟨_, z⟩; have := (h.rc hw).2.1.1; omega⟩ (fun j L hj P => ?_) fun L P => ?_) fun L hL => ?_
      · obtain ⟨q', rfl, lq', e1⟩ := P
        have hjc : (0 : Int) ≤ j ∧ (j : Int) < C := ⟨by omega, by omega⟩
        have hjn : Gn C.toNat (j : Int) := ⟨by omega, by omega⟩
        have g1 := perm_gn hg hjn
        rw [gt_ix (perm_len hg) hjn, mulR_64 (i := (i : Int)) (by omega) (by omega)]
        simp only [Res.bind_ok, nx_ok]
        have z1 := (h.pl hia hjc).1
        rw [s2_1 lq' z1]
        refine Tr.ok ⟨_, rfl, by rw [List.length_set, lq'], ?_⟩
        exact cell_row (f := fun b => i * C + gt goals b) h hia hjc lq' rfl e1
      · rw [show ((C.toNat : Nat) : Int) = C by omega] at P
        exact P
      · obtain ⟨q', rfl, lq', e1⟩ := hL
        refine Tr.ok ⟨q', rfl, lq', row_step h hia hg cq fun w hw => ?_⟩
        rw [e1 w hw]
        have := (h.rc hw).2.1.2
        by_cases c : w / C = i
        · rw [if_pos c, if_pos ⟨c, this⟩]
        · rw [if_neg c, if_neg fun z => c z.1]
    · obtain ⟨q, rfl, lq, cq⟩ := P
      rw [show ((A.toNat : Nat) : Int) = A by omega] at cq
      exact ⟨q, rfl, cq.perm h lq⟩
    · obtain ⟨q, rfl, pq⟩ := hL
      exact Tr.ok ⟨p, q, r, rfl, pp, pq, pr⟩
theorem composed_ok (hn : n ≤ 24) (pp : p.Perm (upto n)) (pq : q.Perm (upto n)) (pr : r.Perm (upto n)) : Tr (N_law_composed_lli [p, q, r]) fun d => d.Perm (upto n) := by
  unfold N_law_composed_lli
  have lp := perm_len pp
  have i0 : ixR [p, q, r] 0 = .ok p := rfl
  have i1 : ixR [p, q, r] 1 = .ok q := rfl
  have i2 : ixR [p, q, r] 2 = .ok r := rfl
  rw [i0, i1, i2]
  simp only [Res.bind_ok]
  rw [lcR_map (g := fun x => gt r (gt q x)) (by omega) fun x hx => by
    have hx := mem_upto.mp (pp.mem_iff.mp hx)
    rw [gt_ix (perm_len pq) hx]
    simp only [Res.bind_ok]
    rw [gt_ix (perm_len pr) (perm_gn pq hx)]]
  refine Tr.ok ((pp.map _).trans (perm_inj (fun u hu => perm_gn pr (perm_gn pq hu)) fun u v hu hv e => perm_gi pq hu hv (perm_gi pr (perm_gn pq hu) (perm_gn pq hv) e)))
end Kx
namespace Kx
open PySem PySem.Spec L2 Da
variable {n a c : Nat} {day : List Int}
theorem upto_add {m k : Nat} : upto (m + k) = upto m ++ (upto k).map fun v => (m : Int) + v := by
  unfold upto
  rw [List.range_add, List.map_append, List.map_map, List.map_map]
  congr 1
theorem cnt_col {b : Int} (hb : Gn c b) : ∀ k : Nat, sI (upto (k * c)) (fun v => if v % (c : Int) = b then 1 else 0) = (k : Int)
  | 0 => by rw [Nat.zero_mul]; rfl
  | k + 1 => by
    rw [Nat.add_mul, Nat.one_mul, upto_add, sI_app, cnt_col hb k, sI_map]
    have e := sI_uniq (xs := upto c) (a := b) (p := fun v => decide (v = b)) upto_nd (mem_upto.mpr hb) fun v _ => by rw [decide_eq_true_iff]
    rw [sI_congr (g := fun v => if decide (v = b) = true then 1 else 0) fun v hv => ?_, e]
    · omega
    · have hv := mem_upto.mp hv
      have : (((k * c : Nat) : Int) + v) % (c : Int) = v := by
        rw [show ((k * c : Nat) : Int) = (k : Int) * (c : Int) by simp, Int.add_comm, Int.add_mul_emod_self_right, Int.emod_eq_of_lt hv.1 hv.2]
      rw [this]
      by_cases q : v = b
      · rw [if_pos q, if_pos (decide_eq_true q)]
      · rw [if_neg q, if_neg (by simpa using q)]
theorem sI_one {P : Prop} [Decidable P] {x : Int} (hx : Gn c x) : sI (upto c) (fun d => if P ∧ x = d then 1 else 0) = if P then 1 else 0 := by
  by_cases hP : P
  · rw [if_pos hP]
    refine (sI_congr fun d _ => ?_).trans (sI_uniq (xs := upto c) (a := x) (p := fun d => decide (x = d)) upto_nd (mem_upto.mpr hx) fun v _ => by rw [decide_eq_true_iff]; exact eq_comm)
    by_cases q : x = d
    · rw [if_pos ⟨hP, q⟩, if_pos (decide_eq_true q)]
    · rw [if_neg fun z => q z.2, if_neg (by simpa using q)]
  · rw [if_neg hP]
    exact (sI_congr (g := fun _ => 0) fun d _ => if_neg fun z => hP z.1).trans (sI_zero _)
theorem Dm.md' (h : Dm n a c) (u : Int) : Gn c (u % (c : Int)) := ⟨Int.emod_nonneg _ (by have := h.c0; omega), Int.emod_lt_of_pos _ h.c0⟩
theorem Dm.ne (h : Dm n a c) : a * c = n := by
  have := h.ac
  rw [← Int.natCast_mul] at this
  exact Int.ofNat_inj.mp this
theorem zeros_ok27 (hn : n ≤ 1000) : ∃ Z : List (List Int), ((rngR (n : Int)).bind fun x4 => lcR x4 (fun x1 => Res.ok true) (fun x1 => ((rngR (n : Int)).bind fun x3 => lcR x3 (fun x2 => Res.ok true) (fun x2 => (Res.ok (0 : Int)))))) = .ok Z ∧ Sqr n Z ∧ ∀ u v, Gn n u → Gn n v → hAt Z u v = 0 := by
  refine ⟨(upto n).map fun _ => (upto n).map fun _ => 0, ?_, ⟨by rw [List.length_map, upto_length], fun r hr => ?_⟩, fun u v hu hv => ?_⟩
  · rw [rngR_nat (by omega)]
    simp only [Res.bind_ok]
    exact lcR_map (by rw [upto_length]; omega) fun _ _ => lcR_map (by rw [upto_length]; omega) fun _ _ => rfl
  · obtain ⟨_, _, rfl⟩ := List.mem_map.mp hr
    rw [List.length_map, upto_length]
  · unfold hAt
    rw [List.getD_eq_getElem?_getD (l := (upto n).map _), List.getElem?_map, upto_at (show u.toNat < n by have := hu.1; have := hu.2; omega)]
    simp only [Option.map_some, Option.getD_some]
    rw [List.getD_eq_getElem?_getD, List.getElem?_map]
    cases (upto n)[v.toNat]? <;> rfl
def cD (c : Nat) (day : List Int) (k : Nat) (b d : Int) : Int := sI (upto k) fun v => if v % (c : Int) = b ∧ gt day v % (c : Int) = d then 1 else 0
theorem csq_ok (h : Dm n a c) (pd : day.Perm (upto n)) : Tr (N_column_square_i_i_ti a c day) fun M => EvenS c a M ∧ ∀ b d, Gn c b → Gn c d → hAt M b d = cD c day n b d := by
  have n9 := h.sm
  have al := h.al
  have cl := h.cl
  unfold N_column_square_i_i_ti
  obtain ⟨Z, ez, sz, zz⟩ := zeros_ok27 (n := c) (by omega)
  rw [ez, h.mul]
  simp only [Res.bind_ok]
  rw [rngR_nat (by omega)]
  simp only [Res.bind_ok]
  refine Tr.bind (Q := fun M => EvenS c a M ∧ ∀ b d, Gn c b → Gn c d → hAt M b d = cD c day n b d) (tr_forRn (fun i s => Sqr c s ∧ ∀ b d, Gn c b → Gn c d → hAt s b d = cD c day i b d) ⟨sz, fun b d hb hd => by rw [zz b d hb hd]; rfl⟩ (fun i s hi P => ?_) fun s P => ?_) fun M hM => Tr.ok hM
  · obtain ⟨ps, pv⟩ := P
    have hin : Gn n (i : Int) := ⟨by omega, by omega⟩
    rw [h.md, gt_ix (perm_len pd) hin]
    simp only [Res.bind_ok, nx_ok, h.md]
    have h1 := h.md' (i : Int)
    have h2 := h.md' (gt day i)
    rw [ps.aug h1 h2]
    obtain ⟨q1, q2⟩ := ps.put (x := hAt s ((i : Int) % c) (gt day i % c) + 1) h1 h2
    refine Tr.ok ⟨q1, fun b d hb hd => ?_⟩
    rw [q2 b d hb hd]
    unfold cD
    rw [upto_snoc, sI_app, sI_cons, sI_nil]
    have := pv b d hb hd
    unfold cD at this
    rw [← this]
    by_cases q : b = (i : Int) % c ∧ d = gt day i % c
    · rw [if_pos q, if_pos ⟨q.1.symm, q.2.symm⟩, q.1, q.2]
      omega
    · rw [if_neg q, if_neg fun z => q ⟨z.1.symm, z.2.symm⟩]
      omega
  · obtain ⟨ps, pv⟩ := P
    refine ⟨⟨ps, fun u v hu hv => ?_, fun b hb => ?_, fun d hd => ?_⟩, pv⟩
    · rw [pv u v hu hv]
      exact sI_nn fun x _ => by split <;> omega
    · unfold rowS
      rw [sI_congr (g := fun d => cD c day n b d) fun d hd => pv b d hb (mem_upto.mp hd)]
      unfold cD
      rw [sI_swap, sI_congr (g := fun v => if v % (c : Int) = b then 1 else 0) fun v _ => sI_one (h.md' _), ← h.ne]
      exact cnt_col hb a
    · unfold colS
      rw [sI_congr (g := fun b => cD c day n b d) fun b hb => pv b d (mem_upto.mp hb) hd]
      unfold cD
      rw [sI_swap, sI_congr (g := fun v => if gt day v % (c : Int) = d then 1 else 0) fun v _ => by
        rw [← sI_one (c := c) (x := v % (c : Int)) (h.md' _)]
        exact sI_congr fun b _ => by simp only [and_comm]]
      have e := sI_map (xs := upto n) (g := gt day) (f := fun x => if x % (c : Int) = d then 1 else 0)
      rw [← e, ← gt_map (perm_len pd), sI_perm pd, ← h.ne]
      exact cnt_col hd a
theorem lst_map {α : Type} (d : α) (xs : List α) : (upto xs.length).map (fun v => xs.getD v.toNat d) = xs := by
  refine List.ext_getElem? fun i => ?_
  rw [List.getElem?_map]
  by_cases hi : i < xs.length
  · rw [upto_at hi]
    show some (xs.getD i d) = _
    rw [List.getD_eq_getElem?_getD, List.getElem?_eq_getElem hi]
    rfl
  · rw [List.getElem?_eq_none (by rw [upto_length]; omega), List.getElem?_eq_none (by omega)]
    rfl
theorem ow_set27 {s : List (Option Int)} {u w : Int} {x : Option Int} (hl : s.length = n) (hu : Gn n u) (hw : 0 ≤ w) : ow (s.set u.toNat x) w = if w = u then x else ow s w := by
  have := hu.2
  have := hu.1
  unfold ow
  rw [getD_set (by omega)]
  by_cases e : w = u
  · rw [if_pos e, if_pos (by omega)]
  · rw [if_neg e, if_neg (by omega)]
def dAt (ds : List (List Int)) (x b : Int) : Int := gt (ds.getD x.toNat []) b
structure Ch (n c : Nat) (day : List Int) (ds : List (List Int)) (k b : Int) (s : List (Option Int)) : Prop where
  len : s.length = n
  val : ∀ u x, Gn n u → ow s u = some x → 0 ≤ x ∧ (x < k ∨ x = k ∧ u % (c : Int) < b) ∧ dAt ds x (u % (c : Int)) = gt day u % (c : Int)
  inj : ∀ u v x, Gn n u → Gn n v → ow s u = some x → ow s v = some x → u % (c : Int) = v % (c : Int) → u = v
  cnt : sI (upto n) (fun u => if (ow s u).isSome = true then 1 else 0) = k * c + b
structure Prt (n a c : Nat) (day : List Int) (ds : List (List Int)) : Prop where
  len : ds.length = a
  perm : ∀ x : Int, Gn a x → (ds.getD x.toNat []).Perm (upto c)
  cnt : ∀ b d, Gn c b → Gn c d → cntD ds b d = cD c day n b d
theorem Ch.free {ds : List (List Int)} {k b : Int} {s : List (Option Int)} (h : Dm n a c) (hP : Prt n a c day ds) (hC : Ch n c day ds k b s) (hk : Gn a k) (hb : Gn c b) : ∃ u, Gn n u ∧ u % (c : Int) = b ∧ gt day u % (c : Int) = dAt ds k b ∧ ow s u = none := by
  refine Classical.byContradiction fun hno => ?_
  have al : ∀ u, Gn n u → u % (c : Int) = b → gt day u % (c : Int) = dAt ds k b → ∃ x, ow s u = some x := fun u hu e1 e2 => by
    cases e : ow s u with
    | none => exact (hno ⟨u, hu, e1, e2, e⟩).elim
    | some x => exact ⟨x, rfl⟩
  have hd : Gn c (dAt ds k b) := perm_gn (hP.perm k hk) hb
  have e := hP.cnt b (dAt ds k b) hb hd
  generalize hdd : dAt ds k b = d at *
  have e1 : cD c day n b d = (((upto n).filter fun u => decide (u % (c : Int) = b ∧ gt day u % (c : Int) = d)).length : Int) := by
    have := sI_filter (upto n) (fun u => decide (u % (c : Int) = b ∧ gt day u % (c : Int) = d)) (fun _ => 1)
    rw [sI_const, Int.mul_one] at this
    rw [this]
    unfold cD
    refine sI_congr fun u _ => ?_
    by_cases q : u % (c : Int) = b ∧ gt day u % (c : Int) = d
    · rw [if_pos q, if_pos (decide_eq_true q)]
    · rw [if_neg q, if_neg (by simpa using q)]
  have e2 : cntD ds b d = (((upto a).filter fun x => decide (dAt ds x b = d)).length : Int) := by
    unfold cntD
    conv => lhs; rw [← lst_map [] ds, hP.len]
    rw [List.filter_map, List.length_map]
    rfl
  have f1 : ((upto n).filter fun u => decide (u % (c : Int) = b ∧ gt day u % (c : Int) = d)).length ≤ ((upto a).filter fun x => decide (x < k ∧ dAt ds x b = d)).length := by
    have nd : (((upto n).filter fun u => decide (u % (c : Int) = b ∧ gt day u % (c : Int) = d)).map fun u => (ow s u).getD 0).Nodup := by
      refine List.pairwise_map.mpr (((upto_nd (n := n)).filter _).imp_of_mem fun {u v} hu hv hne z => hne ?_)
      obtain ⟨hu, pu⟩ := List.mem_filter.mp hu
      obtain ⟨hv, pv⟩ := List.mem_filter.mp hv
      have hu := mem_upto.mp hu
      have hv := mem_upto.mp hv
      have pu := of_decide_eq_true pu
      have pv := of_decide_eq_true pv
      obtain ⟨x, ex⟩ := al u hu pu.1 pu.2
      obtain ⟨y, ey⟩ := al v hv pv.1 pv.2
      rw [ex, ey] at z
      have z : x = y := z
      rw [← z] at ey
      exact hC.inj u v x hu hv ex ey (pu.1.trans pv.1.symm)
    have := List.Nodup.length_le_of_subset nd (l₂ := (upto a).filter fun x => decide (x < k ∧ dAt ds x b = d)) fun x hx => by
      obtain ⟨u, hu, rfl⟩ := List.mem_map.mp hx
      obtain ⟨hu, pu⟩ := List.mem_filter.mp hu
      have hu := mem_upto.mp hu
      have pu := of_decide_eq_true pu
      obtain ⟨x, ex⟩ := al u hu pu.1 pu.2
      rw [ex]
      obtain ⟨x0, x1, x2⟩ := hC.val u x hu ex
      rw [pu.1] at x1 x2
      have hxk : x < k := by rcases x1 with z | z <;> omega
      show x ∈ _
      have := hk.2
      exact List.mem_filter.mpr ⟨mem_upto.mpr ⟨x0, by omega⟩, decide_eq_true ⟨hxk, x2.trans pu.2⟩⟩
    rwa [List.length_map] at this
  have f2 : ((upto a).filter fun x => decide (x < k ∧ dAt ds x b = d)).length + 1 ≤ ((upto a).filter fun x => decide (dAt ds x b = d)).length := by
    have nd : (k :: (upto a).filter fun x => decide (x < k ∧ dAt ds x b = d)).Nodup := List.nodup_cons.mpr ⟨fun m => by
      have := of_decide_eq_true (List.mem_filter.mp m).2
      omega, (upto_nd (n := a)).filter _⟩
    have := List.Nodup.length_le_of_subset nd (l₂ := (upto a).filter fun x => decide (dAt ds x b = d)) fun x hx => by
      rcases List.mem_cons.mp hx with rfl | hx
      · exact List.mem_filter.mpr ⟨mem_upto.mpr hk, decide_eq_true hdd⟩
      · obtain ⟨m, px⟩ := List.mem_filter.mp hx
        exact List.mem_filter.mpr ⟨m, decide_eq_true (of_decide_eq_true px).2⟩
    rwa [List.length_cons] at this
  omega
theorem Ch.step {ds : List (List Int)} {k b u : Int} {s : List (Option Int)} (h : Dm n a c) (hC : Ch n c day ds k b s) (hk : Gn a k) (hu : Gn n u) (e1 : u % (c : Int) = b) (e2 : gt day u % (c : Int) = dAt ds k b) (e3 : ow s u = none) : Ch n c day ds k (b + 1) (s.set u.toNat (some k)) := by
  refine ⟨by rw [List.length_set, hC.len], fun w x hw => ?_, fun w v x hw hv => ?_, ?_⟩
  · rw [ow_set27 hC.len hu hw.1]
    by_cases q : w = u
    · rw [if_pos q, q, e1]
      intro z
      cases z
      exact ⟨hk.1, .inr ⟨rfl, by omega⟩, e2.symm⟩
    · rw [if_neg q]
      intro z
      obtain ⟨x0, x1, x2⟩ := hC.val w x hw z
      exact ⟨x0, by rcases x1 with y | y; exact .inl y; exact .inr ⟨y.1, by omega⟩, x2⟩
  · rw [ow_set27 hC.len hu hw.1, ow_set27 hC.len hu hv.1]
    intro z1 z2 em
    by_cases q1 : w = u <;> by_cases q2 : v = u
    · rw [q1, q2]
    · rw [if_pos q1] at z1
      rw [if_neg q2] at z2
      cases z1
      obtain ⟨_, y, _⟩ := hC.val v k hv z2
      rw [← em, q1, e1] at y
      omega
    · rw [if_neg q1] at z1
      rw [if_pos q2] at z2
      cases z2
      obtain ⟨_, y, _⟩ := hC.val w k hw z1
      rw [em, q2, e1] at y
      omega
    · rw [if_neg q1] at z1
      rw [if_neg q2] at z2
      exact hC.inj w v x hw hv z1 z2 em
  · have := sI_less (xs := upto n) (a := u) (f := fun w => if (ow (s.set u.toNat (some k)) w).isSome = true then 1 else 0) (g := fun w => if (ow s w).isSome = true then 1 else 0) upto_nd (mem_upto.mpr hu) fun w hw => by
      have hw := mem_upto.mp hw
      rw [ow_set27 hC.len hu hw.1]
      by_cases q : w = u
      · rw [q, e3, if_pos rfl, if_pos rfl]
        rfl
      · rw [if_neg q, if_neg q]
        omega
    rw [hC.cnt] at this
    omega
theorem Ch.next {ds : List (List Int)} {k : Int} {s : List (Option Int)} (h : Dm n a c) (hC : Ch n c day ds k c s) : Ch n c day ds (k + 1) 0 s := by
  refine ⟨hC.len, fun u x hu e => ?_, hC.inj, ?_⟩
  · obtain ⟨x0, x1, x2⟩ := hC.val u x hu e
    exact ⟨x0, .inl (by rcases x1 with y | y <;> omega), x2⟩
  · rw [hC.cnt, Int.add_mul]
    omega
theorem chosen_ok (h : Dm n a c) (pd : day.Perm (upto n)) : Tr (N_chosen_rows_i_i_ti a c day) fun s => ∃ ds, Prt n a c day ds ∧ Ch n c day ds a 0 s := by
  have n9 := h.sm
  have al := h.al
  have cl := h.cl
  have c0 := h.c0
  unfold N_chosen_rows_i_i_ti
  rw [h.mul]
  simp only [Res.bind_ok]
  rw [rngR_nat (by omega), rngR_nat (by omega)]
  simp only [Res.bind_ok]
  rw [lcR_map (g := fun _ => (none : Option Int)) (by rw [upto_length]; omega) fun _ _ => rfl]
  simp only [Res.bind_ok]
  obtain ⟨M, em, hM, hv⟩ := csq_ok h pd
  rw [em]
  simp only [Res.bind_ok]
  obtain ⟨ds, ed, _, dl, dp, dc⟩ := parted_ok hM (by omega) (by omega) (by omega)
  rw [ed]
  simp only [Res.bind_ok]
  have dl : ds.length = a := by omega
  have hP : Prt n a c day ds := ⟨dl, fun x hx => dp _ (by
    have := hx.1
    have := hx.2
    rw [List.getD_eq_getElem?_getD, List.getElem?_eq_getElem (by omega)]
    exact List.getElem_mem _), fun b d hb hd => by rw [dc b d hb hd, hv b d hb hd]⟩
  have now : ∀ u, Gn n u → ow ((upto n).map fun _ => (none : Option Int)) u = none := fun u hu => by
    have := hu.1
    have := hu.2
    unfold ow
    rw [List.getD_eq_getElem?_getD, List.getElem?_map, upto_at (by omega)]
    rfl
  refine Tr.bind (Q := fun s => Ch n c day ds a 0 s) (tr_forR (fun i s => Ch n c day ds i 0 s) ⟨by rw [List.length_map, upto_length], fun u x hu e => (by rw [now u hu] at e; cases e), fun u v x hu _ e _ _ => (by rw [now u hu] at e; cases e), by
    rw [sI_congr (g := fun _ => 0) fun u hu => by rw [now u (mem_upto.mp hu)]; rfl, sI_zero]
    simp⟩ (fun i x s hx P => ?_) fun s P => ?_) fun s hs => Tr.ok ⟨ds, hP, hs⟩
  · obtain ⟨x1, x2⟩ := enumI_at hx
    have x1 : x.1 = (i : Int) := by rw [x1, Nat.zero_add]
    have hil : i < a := by rw [← dl]; exact (List.getElem?_eq_some_iff.mp x2).1
    have hk : Gn a (i : Int) := ⟨by omega, by omega⟩
    have ex : ds.getD (i : Int).toNat [] = x.2 := by
      rw [show (i : Int).toNat = i by omega, List.getD_eq_getElem?_getD, x2]
      rfl
    have px := hP.perm i hk
    rw [ex] at px
    rw [x1]
    refine Tr.bind (Q := fun s => Ch n c day ds i c s) (tr_forR (fun j s => Ch n c day ds i j s) P (fun j y s hy P => ?_) fun s P => ?_) fun s hs => Tr.ok (by
      have := hs.next h
      rw [show ((i + 1 : Nat) : Int) = (i : Int) + 1 by omega]
      exact this)
    · obtain ⟨y1, y2⟩ := enumI_at hy
      have y1 : y.1 = (j : Int) := by rw [y1, Nat.zero_add]
      have hjl : j < c := by rw [← perm_len px]; exact (List.getElem?_eq_some_iff.mp y2).1
      have hb : Gn c (j : Int) := ⟨by omega, by omega⟩
      have ey : dAt ds i j = y.2 := by
        unfold dAt gt
        rw [ex, show (j : Int).toNat = j by omega, List.getD_eq_getElem?_getD, y2]
        rfl
      rw [y1, ← ey]
      obtain ⟨u0, hu0, f1, f2, f3⟩ := P.free h hP hk hb
      refine Tr.bind (Q := fun s => Ch n c day ds i (j + 1) s) ?_ fun s hs => Tr.ok (by
        rw [show ((j + 1 : Nat) : Int) = (j : Int) + 1 by omega]
        exact hs)
      refine Tr.bind (Q := fun o => ∃ s', o = .go s' ∧ Ch n c day ds i (j + 1) s') (tr_forCn (fun t s' => s' = s ∧ ∀ w, Gn n w → w % (c : Int) = j → gt day w % (c : Int) = dAt ds i j → ow s w = none → ¬ w / (c : Int) < t) ⟨rfl, fun w hw _ _ _ z => by have := (h.rc hw).1.1; omega⟩ (fun t s' ht Q => ?_) fun s' Q => ?_) fun o ho => by
          obtain ⟨s', rfl, q⟩ := ho
          exact Tr.ok q
      · obtain ⟨rfl, Q⟩ := Q
        have ht' : (0 : Int) ≤ t ∧ (t : Int) < a := ⟨by omega, by omega⟩
        obtain ⟨z1, z2, z3⟩ := h.pl ht' hb
        rw [mulR_64 (by omega) (by omega)]
        simp only [Res.bind_ok]
        have ei : ixR s' ((t : Int) * c + j) = .ok (ow s' ((t : Int) * c + j)) := ixR_D none z1.1 (by rw [P.len]; exact z1.2)
        rw [ei]
        simp only [Res.bind_ok]
        rw [gt_ix (perm_len pd) z1]
        simp only [Res.bind_ok, h.md]
        by_cases q1 : ow s' ((t : Int) * c + j) = none
        · rw [if_pos (by rw [q1]; rfl)]
          simp only [Res.bind_ok]
          by_cases q2 : gt day ((t : Int) * c + j) % (c : Int) = dAt ds i j
          · rw [if_pos (decide_eq_true q2), setR_of z1.1 (by rw [P.len]; exact z1.2)]
            exact Tr.ok ⟨_, rfl, P.step h hk z1 z2 q2 q1⟩
          · rw [if_neg (by simpa using q2)]
            refine Tr.ok ⟨rfl, fun w hw w1 w2 w3 w4 => ?_⟩
            have := Q w hw w1 w2 w3
            have e : w / (c : Int) = t := by omega
            have := at_pl h hw e w1
            rw [this] at w2
            exact q2 w2
        · rw [if_neg (by
            intro z
            exact q1 (Option.isNone_iff_eq_none.mp z))]
          simp only [Res.bind_ok]
          rw [if_neg (by simp)]
          refine Tr.ok ⟨rfl, fun w hw w1 w2 w3 w4 => ?_⟩
          have := Q w hw w1 w2 w3
          have e : w / (c : Int) = t := by omega
          have := at_pl h hw e w1
          rw [this] at w3
          exact q1 w3
      · exact (Q.2 u0 hu0 f1 f2 f3 (h.rc hu0).1.2).elim
    · rw [enumI_length, perm_len px] at P
      exact P
  · rw [enumI_length, dl] at P
    exact P
theorem Ch.all {ds : List (List Int)} {s : List (Option Int)} (h : Dm n a c) (hC : Ch n c day ds a 0 s) {u : Int} (hu : Gn n u) : ∃ x, ow s u = some x := by
  have e := hC.cnt
  rw [Int.add_zero, h.ac] at e
  have e2 := sI_const (upto n) 1
  rw [upto_length, Int.mul_one, ← e] at e2
  have := (sI_eq (xs := upto n) (f := fun u => if (ow s u).isSome = true then 1 else 0) (g := fun _ => 1) fun x _ => by split <;> omega).mp e2.symm u (mem_upto.mpr hu)
  cases q : ow s u with
  | none => rw [q] at this; simp at this
  | some x => exact ⟨x, rfl⟩
theorem three_ok (h : Dm n a c) (pd : day.Perm (upto n)) : Tr (N_three_legs_i_i_li a c day) fun t => Rt3 n c day t.1 t.2.1 t.2.2 := by
  have n9 := h.sm
  have al := h.al
  have cl := h.cl
  have ld := perm_len pd
  unfold N_three_legs_i_i_li
  rw [frozen_li (by omega)]
  simp only [Res.bind_ok]
  obtain ⟨s, es, ds, hP, hC⟩ := chosen_ok h pd
  rw [es]
  simp only [Res.bind_ok]
  rw [lcR_map (g := fun _ => (0 : Int)) (by omega) fun _ _ => rfl]
  simp only [Res.bind_ok]
  generalize hch : (fun u => (ow s u).getD 0) = ch
  have chv : ∀ u, Gn n u → ow s u = some (ch u) := fun u hu => by
    obtain ⟨x, e⟩ := hC.all h hu
    rw [← hch]
    show ow s u = some ((ow s u).getD 0)
    rw [e]
    rfl
  have chr : ∀ u, Gn n u → Gn a (ch u) ∧ dAt ds (ch u) (u % (c : Int)) = gt day u % (c : Int) := fun u hu => by
    obtain ⟨x0, x1, x2⟩ := hC.val u _ hu (chv u hu)
    have := (h.md' u).1
    exact ⟨⟨x0, by rcases x1 with y | y <;> omega⟩, x2⟩
  have F1 : ∀ u, Gn n u → Gn n (ch u * c + u % (c : Int)) ∧ (ch u * c + u % (c : Int)) % (c : Int) = u % (c : Int) ∧ (ch u * c + u % (c : Int)) / (c : Int) = ch u := fun u hu => h.pl (chr u hu).1 (h.md' u)
  have G1 : ∀ u, Gn n u → Gn n (ch u * c + gt day u % (c : Int)) ∧ (ch u * c + gt day u % (c : Int)) % (c : Int) = gt day u % (c : Int) ∧ (ch u * c + gt day u % (c : Int)) / (c : Int) = ch u := fun u hu => h.pl (chr u hu).1 (h.md' _)
  have F2 : ∀ u v, Gn n u → Gn n v → ch u * c + u % (c : Int) = ch v * c + v % (c : Int) → u = v := fun u v hu hv e => by
    have e1 := (F1 u hu).2.1
    rw [e, (F1 v hv).2.1] at e1
    have e2 := (F1 u hu).2.2
    rw [e, (F1 v hv).2.2] at e2
    have := chv v hv
    rw [e2] at this
    exact hC.inj u v _ hu hv (chv u hu) this e1.symm
  have G2 : ∀ u v, Gn n u → Gn n v → ch u * c + gt day u % (c : Int) = ch v * c + gt day v % (c : Int) → u = v := fun u v hu hv e => by
    have e1 := (G1 u hu).2.1
    rw [e, (G1 v hv).2.1] at e1
    have e2 := (G1 u hu).2.2
    rw [e, (G1 v hv).2.2] at e2
    have := chv v hv
    rw [e2] at this
    refine hC.inj u v _ hu hv (chv u hu) this ?_
    have a1 := (chr u hu).2
    have a2 := (chr v hv).2
    rw [← e1, ← a2, e2] at a1
    exact perm_gi (hP.perm _ (chr u hu).1) (h.md' u) (h.md' v) a1
  have lz : (day.map fun _ => (0 : Int)).length = n := by rw [List.length_map, ld]
  refine Tr.bind (Q := fun t : List Int × List Int × List Int => t.1.length = n ∧ t.2.1.length = n ∧ t.2.2.length = n ∧ ∀ u, Gn n u → gt t.1 u = ch u * c + u % (c : Int) ∧ gt t.2.1 (ch u * c + u % (c : Int)) = ch u * c + gt day u % (c : Int) ∧ gt t.2.2 (ch u * c + gt day u % (c : Int)) = gt day u)
    (tr_forR (fun i t => t.1.length = n ∧ t.2.1.length = n ∧ t.2.2.length = n ∧ ∀ u, Gn n u → u < i → gt t.1 u = ch u * c + u % (c : Int) ∧ gt t.2.1 (ch u * c + u % (c : Int)) = ch u * c + gt day u % (c : Int) ∧ gt t.2.2 (ch u * c + gt day u % (c : Int)) = gt day u) ⟨lz, lz, lz, fun u hu z => by have := hu.1; omega⟩ (fun i x t hx P => ?_) fun t P => ?_) fun t ht => ?_
  · obtain ⟨x1, x2⟩ := enumI_at hx
    have x1 : x.1 = (i : Int) := by rw [x1, Nat.zero_add]
    have hil : i < n := by rw [← ld]; exact (List.getElem?_eq_some_iff.mp x2).1
    have hi : Gn n (i : Int) := ⟨by omega, by omega⟩
    have ex : x.2 = gt day i := by
      have := gt_at ld hi
      rw [show (i : Int).toNat = i by omega, x2] at this
      exact Option.some.inj this
    obtain ⟨l1, l2, l3, pv⟩ := P
    rw [x1, ex]
    have ei : ixR s (i : Int) = .ok (some (ch i)) := by
      have : ixR s (i : Int) = .ok (ow s i) := ixR_D none hi.1 (by rw [hC.len]; exact hi.2)
      rw [this, chv _ hi]
    rw [ei]
    have eu : unO (some (ch (i : Int))) = .ok (ch i) := rfl
    simp only [Res.bind_ok, eu]
    have hci := (chr _ hi).1
    rw [mulR_64 (i := ch i) (by have := hci.1; have := hci.2; omega) (by omega)]
    simp only [Res.bind_ok, h.md]
    obtain ⟨f1, f2, f3⟩ := F1 _ hi
    obtain ⟨g1, g2, g3⟩ := G1 _ hi
    rw [setR_of hi.1 (by rw [l1]; exact hi.2), setR_of f1.1 (by rw [l2]; exact f1.2), setR_of g1.1 (by rw [l3]; exact g1.2)]
    refine Tr.ok ⟨by dsimp only; rw [List.length_set, l1], by dsimp only; rw [List.length_set, l2], by dsimp only; rw [List.length_set, l3], fun u hu hui => ?_⟩
    dsimp only
    rw [gt_set l1 hi hu.1, gt_set l2 f1 (F1 u hu).1.1, gt_set l3 g1 (G1 u hu).1.1]
    by_cases q : u = i
    · rw [if_pos q, q, if_pos rfl, if_pos rfl]
      exact ⟨rfl, rfl, rfl⟩
    · rw [if_neg q, if_neg fun z => q (F2 _ _ hu hi z), if_neg fun z => q (G2 _ _ hu hi z)]
      exact pv u hu (by omega)
  · obtain ⟨l1, l2, l3, pv⟩ := P
    exact ⟨l1, l2, l3, fun u hu => pv u hu (by rw [enumI_length, ld]; exact hu.2)⟩
  · obtain ⟨f, g, t⟩ := t
    obtain ⟨l1, l2, l3, pv⟩ := ht
    dsimp only at l1 l2 l3 pv
    refine Tr.ok ?_
    show Rt3 n c day f g t
    refine ⟨perm_g l1 (fun u hu => by rw [(pv u hu).1]; exact (F1 u hu).1) fun u v hu hv e => ?_, perm_g l2 (fun w hw => ?_) fun w z hw hz e => ?_, perm_g l3 (fun w hw => ?_) fun w z hw hz e => ?_, fun u hu => ?_⟩
    · rw [(pv u hu).1, (pv v hv).1] at e
      exact F2 u v hu hv e
    · obtain ⟨u, hu, rfl⟩ := surj_inj (fun u hu => (F1 u hu).1) F2 hw
      rw [(pv u hu).2.1]
      exact (G1 u hu).1
    · obtain ⟨u, hu, rfl⟩ := surj_inj (fun u hu => (F1 u hu).1) F2 hw
      obtain ⟨v, hv, rfl⟩ := surj_inj (fun u hu => (F1 u hu).1) F2 hz
      rw [(pv u hu).2.1, (pv v hv).2.1] at e
      rw [G2 u v hu hv e]
    · obtain ⟨u, hu, rfl⟩ := surj_inj (fun u hu => (G1 u hu).1) G2 hw
      rw [(pv u hu).2.2]
      exact perm_gn pd hu
    · obtain ⟨u, hu, rfl⟩ := surj_inj (fun u hu => (G1 u hu).1) G2 hw
      obtain ⟨v, hv, rfl⟩ := surj_inj (fun u hu => (G1 u hu).1) G2 hz
      rw [(pv u hu).2.2, (pv v hv).2.2] at e
      rw [perm_gi pd hu hv e]
    · unfold Go
      obtain ⟨p1, p2, p3⟩ := pv u hu
      rw [p1, p2, p3]
      exact ⟨(F1 u hu).2.1, by rw [(G1 u hu).2.2, (F1 u hu).2.2], (G1 u hu).2.1.symm, rfl⟩
theorem three_t (hd : day.length ≤ 1000) (A C : Int) : N_three_legs_i_i_ti A C day = N_three_legs_i_i_li A C day := by
  unfold N_three_legs_i_i_ti N_three_legs_i_i_li
  rw [frozen_li (by omega), frozen_t day (by omega)]
end Kx
namespace Kx
open PySem PySem.Spec L2 Da
section
variable {n : Nat} {A C : Int} {day p q r : List Int}
theorem right_t : N_law_right_i_i_li_ptititiq A C day (p, q, r) = N_law_right_i_i_li_lli A C day [p, q, r] := by
  unfold N_law_right_i_i_li_ptititiq N_law_right_i_i_li_lli
  rfl
theorem told_ok (h : Dm n A C) (hd : day.length = n) (R : Rt3 n C day p q r) : N_law_told_right_i_i_li_ptititiq A C day (p, q, r) = .ok true := by
  unfold N_law_told_right_i_i_li_ptititiq
  rw [if_neg (by simp)]
  refine Tr.eq (tr_all (fun l hl => ?_) ?_)
  · rw [h.mul]
    have : l.length = n := by
      simp only [List.mem_cons, List.not_mem_nil, or_false] at hl
      rcases hl with rfl | rfl | rfl
      · exact perm_len R.pp
      · exact perm_len R.pq
      · exact perm_len R.pr
    simp only [Res.bind_ok]
    rw [if_neg (by simp [this])]
    exact tr_all (fun _ _ => Tr.ok rfl) (Tr.ok rfl)
  · rw [right_t]
    exact (right_ok h hd).imp fun b w => w.mpr R
theorem ren_ok (h : Dm n A C) (R : Rt3 n C day p q r) {turn : List Int} (ht : turn.Perm (upto A.toNat)) : Tr (N_law_renumbered_lli_i_li [p, q, r] C turn) fun L => ∃ p' q' r', L = [p', q', r'] ∧ Rt3 n C day p' q' r' := by
  have n9 := h.sm
  have al := h.al
  have cl := h.cl
  have a0 := h.a0
  have lp := perm_len R.pp
  have lq := perm_len R.pq
  have lr := perm_len R.pr
  unfold N_law_renumbered_lli_i_li
  have i0 : ixR [p, q, r] 0 = .ok p := rfl
  have i1 : ixR [p, q, r] 1 = .ok q := rfl
  have i2 : ixR [p, q, r] 2 = .ok r := rfl
  have e3 : rngR 3 = .ok (upto 3) := rngR_nat (n := 3) (by omega)
  rw [e3, i0, i1, i2]
  simp only [Res.bind_ok]
  rw [lp, rngR_nat (by omega), lcR_map (g := fun _ => p.map fun _ => (0 : Int)) (by rw [upto_length]; omega) fun _ _ => lcR_map (by omega) fun _ _ => rfl]
  have eZ : ((upto 3).map fun _ => p.map fun _ => (0 : Int)) = [p.map fun _ => 0, p.map fun _ => 0, p.map fun _ => 0] := rfl
  rw [eZ]
  simp only [Res.bind_ok]
  have gg : ∀ {w : Int}, Gn n w → Gn A.toNat (w / C) ∧ 0 ≤ gt turn (w / C) ∧ gt turn (w / C) < A := fun {w} hw => by
    have hc := (h.rc hw).1
    have g : Gn A.toNat (w / C) := ⟨hc.1, by omega⟩
    have := perm_gn ht g
    exact ⟨g, this.1, by have := this.2; omega⟩
  generalize hT : (fun w : Int => gt turn (w / C) * C + w % C) = T
  have Tv : ∀ w, T w = gt turn (w / C) * C + w % C := fun w => by rw [← hT]
  have T1 : ∀ w, Gn n w → Gn n (T w) ∧ T w % C = w % C ∧ T w / C = gt turn (w / C) := fun w hw => by
    rw [Tv]
    exact h.pl (gg hw).2 (h.rc hw).2.1
  have T2 : ∀ u v, Gn n u → Gn n v → T u = T v → u = v := fun u v hu hv e => by
    have e1 := (T1 u hu).2.1
    rw [e, (T1 v hv).2.1] at e1
    have e2 := (T1 u hu).2.2
    rw [e, (T1 v hv).2.2] at e2
    have := perm_gi ht (gg hv).1 (gg hu).1 e2
    rw [at_pl h hu rfl rfl, at_pl h hv this rfl, e1]
  have lz : (p.map fun _ => (0 : Int)).length = n := by rw [List.length_map, lp]
  have mm : ∀ {w : Int}, Gn n w → mulR (gt turn (w / C)) C = .ok (gt turn (w / C) * C) := fun {w} hw => by
    have := (gg hw).2
    have := h.c0
    exact mulR_64 (by omega) (by omega)
  refine Tr.bind (Q := fun L => ∃ p' q' r' : List Int, L = [p', q', r'] ∧ p'.length = n ∧ q'.length = n ∧ r'.length = n ∧ ∀ u, Gn n u → gt p' u = T (gt p u) ∧ gt q' (T u) = T (gt q u) ∧ gt r' (T u) = gt r u)
    (tr_forRn (fun i L => ∃ p' q' r' : List Int, L = [p', q', r'] ∧ p'.length = n ∧ q'.length = n ∧ r'.length = n ∧ ∀ u, Gn n u → u < i → gt p' u = T (gt p u) ∧ gt q' (T u) = T (gt q u) ∧ gt r' (T u) = gt r u) ⟨_, _, _, rfl, lz, lz, lz, fun u hu z => by have := hu.1; omega⟩ (fun i L hi P => ?_) fun L P => ?_) fun L hL => ?_
  · obtain ⟨p', q', r', rfl, l1, l2, l3, pv⟩ := P
    have hin : Gn n (i : Int) := ⟨by omega, by omega⟩
    have hp := perm_gn R.pp hin
    have hq := perm_gn R.pq hin
    have t1 := (T1 _ hin).1
    simp only [h.md, h.dv, Res.bind_ok]
    rw [gt_ix (perm_len ht) (gg hin).1, gt_ix lp hin, gt_ix lq hin, gt_ix lr hin]
    simp only [h.md, h.dv, Res.bind_ok]
    rw [gt_ix (perm_len ht) (gg hp).1, gt_ix (perm_len ht) (gg hq).1]
    simp only [Res.bind_ok]
    rw [mm hin, mm hp, mm hq]
    simp only [Res.bind_ok, nx_ok, ← Tv]
    rw [s2_0 l1 hin]
    simp only [Res.bind_ok]
    rw [s2_1 l2 t1]
    simp only [Res.bind_ok]
    rw [s2_2 l3 t1]
    refine Tr.ok ⟨_, _, _, rfl, by rw [List.length_set, l1], by rw [List.length_set, l2], by rw [List.length_set, l3], fun u hu hui => ?_⟩
    rw [gt_set l1 hin hu.1, gt_set l2 t1 (T1 u hu).1.1, gt_set l3 t1 (T1 u hu).1.1]
    by_cases c : u = i
    · rw [if_pos c, c, if_pos rfl, if_pos rfl]
      exact ⟨rfl, rfl, rfl⟩
    · rw [if_neg c, if_neg fun z => c (T2 _ _ hu hin z), if_neg fun z => c (T2 _ _ hu hin z)]
      exact pv u hu (by omega)
  · obtain ⟨p', q', r', rfl, l1, l2, l3, pv⟩ := P
    exact ⟨p', q', r', rfl, l1, l2, l3, fun u hu => pv u hu hu.2⟩
  · obtain ⟨p', q', r', rfl, l1, l2, l3, pv⟩ := hL
    have gp : ∀ {u}, Gn n u → Gn n (gt p u) := fun {u} => perm_gn R.pp
    have gq : ∀ {u}, Gn n u → Gn n (gt q u) := fun {u} => perm_gn R.pq
    refine Tr.ok ⟨p', q', r', rfl, perm_g l1 (fun u hu => by rw [(pv u hu).1]; exact (T1 _ (gp hu)).1) fun u v hu hv e => ?_, perm_g l2 (fun w hw => ?_) fun w z hw hz e => ?_, perm_g l3 (fun w hw => ?_) fun w z hw hz e => ?_, fun u hu => ?_⟩
    · rw [(pv u hu).1, (pv v hv).1] at e
      exact perm_gi R.pp hu hv (T2 _ _ (gp hu) (gp hv) e)
    · obtain ⟨u, hu, rfl⟩ := surj_inj (fun u hu => (T1 u hu).1) T2 hw
      rw [(pv u hu).2.1]
      exact (T1 _ (gq hu)).1
    · obtain ⟨u, hu, rfl⟩ := surj_inj (fun u hu => (T1 u hu).1) T2 hw
      obtain ⟨v, hv, rfl⟩ := surj_inj (fun u hu => (T1 u hu).1) T2 hz
      rw [(pv u hu).2.1, (pv v hv).2.1] at e
      rw [perm_gi R.pq hu hv (T2 _ _ (gq hu) (gq hv) e)]
    · obtain ⟨u, hu, rfl⟩ := surj_inj (fun u hu => (T1 u hu).1) T2 hw
      rw [(pv u hu).2.2]
      exact perm_gn R.pr hu
    · obtain ⟨u, hu, rfl⟩ := surj_inj (fun u hu => (T1 u hu).1) T2 hw
      obtain ⟨v, hv, rfl⟩ := surj_inj (fun u hu => (T1 u hu).1) T2 hz
      rw [(pv u hu).2.2, (pv v hv).2.2] at e
      rw [perm_gi R.pr hu hv e]
    · obtain ⟨g1, g2, g3, g4⟩ := R.go u hu
      unfold Go
      have h1 := gp hu
      have h2 := gq h1
      rw [(pv u hu).1, (pv _ h1).2.1, (pv _ h2).2.2]
      refine ⟨by rw [(T1 _ h1).2.1, g1], by rw [(T1 _ h2).2.2, (T1 _ h1).2.2, g2], by rw [(T1 _ h2).2.1, g3], g4⟩
end
theorem dig27 (cl : Int) : ∃ row, N_law_digits_i_li cl (List.replicate 24 24) = .ok row ∧ row.length = 24 ∧ ∀ x ∈ row, 0 ≤ x := by
  obtain ⟨row, e, h⟩ := law_digits cl (List.replicate 24 24) (fun s hs => by rw [List.eq_of_mem_replicate hs]; omega) (by simp)
  have hl : row.length = 24 := h.1.trans (by simp)
  refine ⟨row, e, hl, fun x hx => ?_⟩
  obtain ⟨i, hi⟩ := List.mem_iff_getElem?.mp hx
  have hil : i < 24 := by rw [← hl]; exact (List.getElem?_eq_some_iff.mp hi).1
  obtain ⟨y, ey, y0, _⟩ := h.get (i := i) (s := 24) (by rw [List.getElem?_replicate, if_pos hil])
  rw [hi] at ey
  cases ey
  exact y0
theorem rep27 : repR [(24 : Int)] 24 = .ok (List.replicate 24 24) := by rw [repR_ok (by decide) (by decide)]; rfl
theorem law_ok (ns : List Int) : Tr (N_law_fi ns) fun b => b = true := by
  unfold N_law_fi
  obtain ⟨c0, e0⟩ := law_cell ns 0 (by omega) (by omega)
  rw [e0, Res.bind_ok]
  obtain ⟨r0, d0, h0⟩ := law_digits c0 [22, 24, 24, 3] (by simp) (by simp)
  rw [d0, Res.bind_ok]
  obtain ⟨m0, em0, m00, m01⟩ := h0.ix (i := 0) (s := 22) rfl
  obtain ⟨m1, em1, m10, m11⟩ := h0.ix (i := 1) (s := 24) rfl
  obtain ⟨m2, em2, m20, m21⟩ := h0.ix (i := 2) (s := 24) rfl
  obtain ⟨m3, em3, m30, m31⟩ := h0.ix (i := 3) (s := 3) rfl
  rw [show ixR r0 0 = .ok m0 from em0, show ixR r0 1 = .ok m1 from em1, show ixR r0 2 = .ok m2 from em2, show ixR r0 3 = .ok m3 from em3]
  simp only [Res.bind_ok]
  rw [divR_64 (by omega) (by omega)]
  simp only [Res.bind_ok]
  have q0 : 0 < 24 / (1 + m1) := by
    have : 1 ≤ 24 / (1 + m1) := (Int.le_ediv_iff_mul_le (by omega)).mpr (by omega)
    omega
  rw [modR_pos q0]
  simp only [Res.bind_ok]
  have hm := Int.emod_nonneg m2 (show 24 / (1 + m1) ≠ 0 by omega)
  have hm2 := Int.emod_lt_of_pos m2 q0
  refine Tr.bind (Q := fun z : Int × Int => ∃ n : Nat, 0 < z.1 ∧ 0 < z.2 ∧ z.1 * z.2 = n ∧ n ≤ 24) ?_ fun z hz => ?_
  · refine Tr.ite (fun h => ?_) fun _ => Tr.ok ?_
    · have h := of_decide_eq_true h
      have hm : m0.toNat < 18 := by omega
      have e := ixR_of (xs := [2, 2, 3, 3, 2, 4, 3, 4, 4, 6, 4, 3, 8, 5, 2, 12, 1, (1 : Int)]) (x := [2, 2, 3, 3, 2, 4, 3, 4, 4, 6, 4, 3, 8, 5, 2, 12, 1, (1 : Int)][m0.toNat]) m00 (List.getElem?_eq_getElem hm)
      have e' := ixR_of (xs := [2, 3, 2, 3, 4, 2, 4, 3, 4, 4, 6, 8, 3, 4, 12, 2, 1, (5 : Int)]) (x := [2, 3, 2, 3, 4, 2, 4, 3, 4, 4, 6, 8, 3, 4, 12, 2, 1, (5 : Int)][m0.toNat]) m00 (List.getElem?_eq_getElem hm)
      rw [e, Res.bind_ok, e', Res.bind_ok]
      refine Tr.ok ?_
      have key : ∀ j : Fin 18, ∃ n : Nat, 0 < [2, 2, 3, 3, 2, 4, 3, 4, 4, 6, 4, 3, 8, 5, 2, 12, 1, (1 : Int)][j] ∧ 0 < [2, 3, 2, 3, 4, 2, 4, 3, 4, 4, 6, 8, 3, 4, 12, 2, 1, (5 : Int)][j] ∧ [2, 2, 3, 3, 2, 4, 3, 4, 4, 6, 4, 3, 8, 5, 2, 12, 1, (1 : Int)][j] * [2, 3, 2, 3, 4, 2, 4, 3, 4, 4, 6, 8, 3, 4, 12, 2, 1, (5 : Int)][j] = n ∧ n ≤ 24 := by
        intro j
        refine ⟨([2, 2, 3, 3, 2, 4, 3, 4, 4, 6, 4, 3, 8, 5, 2, 12, 1, (1 : Int)][j] * [2, 3, 2, 3, 4, 2, 4, 3, 4, 4, 6, 8, 3, 4, 12, 2, 1, (5 : Int)][j]).toNat, ?_⟩
        revert j
        decide
      exact key ⟨m0.toNat, hm⟩
    · have b1 : (1 + m1) * (1 + m2 % (24 / (1 + m1))) ≤ (1 + m1) * (24 / (1 + m1)) := Int.mul_le_mul_of_nonneg_left (by omega) (by omega)
      have b2 : (1 + m1) * (24 / (1 + m1)) ≤ 24 := Int.mul_ediv_self_le (by omega)
      have b3 : 0 ≤ (1 + m1) * (1 + m2 % (24 / (1 + m1))) := Int.mul_nonneg (by omega) (by omega)
      exact ⟨((1 + m1) * (1 + m2 % (24 / (1 + m1)))).toNat, by dsimp only; omega, by dsimp only; omega, by dsimp only; omega, by omega⟩
  obtain ⟨A', C'⟩ := z
  obtain ⟨n, a0, c0', ac, sm⟩ := hz
  dsimp only at a0 c0' ac ⊢
  obtain ⟨a, rfl⟩ : ∃ a : Nat, A' = (a : Int) := ⟨A'.toNat, by omega⟩
  obtain ⟨c, rfl⟩ : ∃ c : Nat, C' = (c : Int) := ⟨C'.toNat, by omega⟩
  have h : Dm n a c := ⟨a0, c0', ac, sm⟩
  have al := h.al
  rw [h.mul]
  simp only [Res.bind_ok]
  have e3 : rngR 3 = .ok (upto 3) := rngR_nat (n := 3) (by omega)
  rw [e3, rep27]
  simp only [Res.bind_ok]
  refine Tr.bind (Q := fun D : List (List Int) => ∃ o t w : List Int, D = [o, t, w] ∧ (o.length = 24 ∧ ∀ x ∈ o, 0 ≤ x) ∧ (t.length = 24 ∧ ∀ x ∈ t, 0 ≤ x) ∧ (w.length = 24 ∧ ∀ x ∈ w, 0 ≤ x)) ?_ fun D hD => ?_
  · refine tr_lcm (fun _ row => row.length = 24 ∧ ∀ x ∈ row, 0 ≤ x) (by rw [upto_length]; omega) (fun k hk => ?_) fun ys hl hy => ?_
    · have hk := mem_upto.mp hk
      obtain ⟨cc, ec⟩ := law_cell ns (3 + k) (by omega) (by omega)
      rw [ec, Res.bind_ok]
      obtain ⟨row, er, q⟩ := dig27 cc
      exact ⟨row, er, q⟩
    · obtain ⟨o, eo, po⟩ := hy 0 0 rfl
      obtain ⟨t, et, pt⟩ := hy 1 1 rfl
      obtain ⟨w, ew, pw⟩ := hy 2 2 rfl
      rw [upto_length] at hl
      match ys, hl, eo, et, ew with
      | [y0, y1, y2], _, eo, et, ew =>
        cases eo
        cases et
        cases ew
        exact ⟨_, _, _, rfl, po, pt, pw⟩
  obtain ⟨o, t, w, rfl, ho, ht, hw⟩ := hD
  have i0 : ixR [o, t, w] 0 = .ok o := rfl
  have i1 : ixR [o, t, w] 1 = .ok t := rfl
  have i2 : ixR [o, t, w] 2 = .ok w := rfl
  rw [i0, i1, i2]
  simp only [Res.bind_ok]
  refine Tr.bind (drawn_ok h ho.1 ho.2 ht.1 ht.2 hw.1 hw.2) fun L hL => ?_
  obtain ⟨p, q, r, rfl, pp, pq, pr⟩ := hL
  refine Tr.bind (composed_ok sm pp pq pr) fun day pd => ?_
  have ld := perm_len pd
  obtain ⟨c1, e1⟩ := law_cell ns 1 (by omega) (by omega)
  rw [e1, powR_40]
  simp only [Res.bind_ok]
  have er : repR [24, 24, 24, 24, 4, (10 : Int) ^ 40 - 1, 3] 2 = .ok ([24, 24, 24, 24, 4, (10 : Int) ^ 40 - 1, 3] ++ [24, 24, 24, 24, 4, (10 : Int) ^ 40 - 1, 3]) := by
    rw [repR_ok (by decide) (by simp)]
    rfl
  rw [er]
  simp only [Res.bind_ok]
  rw [catR_ok (by simp)]
  simp only [Res.bind_ok]
  obtain ⟨r1, d1, h1⟩ := law_digitsL c1 ([24, 24, 24, 24, 4, (10 : Int) ^ 40 - 1, 3] ++ [24, 24, 24, 24, 4, (10 : Int) ^ 40 - 1, 3] ++ List.replicate 24 24) (fun s hs => by
    have k24 : (0 : Int) < 24 ∧ (24 : Int).natAbs < Lim := ⟨by decide, lt_lim (by decide)⟩
    have k4 : (0 : Int) < 4 ∧ (4 : Int).natAbs < Lim := ⟨by decide, lt_lim (by decide)⟩
    have k3 : (0 : Int) < 3 ∧ (3 : Int).natAbs < Lim := ⟨by decide, lt_lim (by decide)⟩
    have kb : (0 : Int) < (10 : Int) ^ 40 - 1 ∧ ((10 : Int) ^ 40 - 1).natAbs < Lim := ⟨by decide, lim_pow (k := 200) (by decide) (by decide)⟩
    have one : ∀ s ∈ [24, 24, 24, 24, 4, (10 : Int) ^ 40 - 1, 3], 0 < s ∧ s.natAbs < Lim := fun s hs => by
      simp only [List.mem_cons, List.not_mem_nil, or_false] at hs
      rcases hs with rfl | rfl | rfl | rfl | rfl | rfl | rfl
      · exact k24
      · exact k24
      · exact k24
      · exact k24
      · exact k4
      · exact kb
      · exact k3
    rcases List.mem_append.mp hs with hs | hs
    · rcases List.mem_append.mp hs with hs | hs
      · exact one s hs
      · exact one s hs
    · rw [List.eq_of_mem_replicate hs]
      exact k24) (by simp)
  rw [d1]
  simp only [Res.bind_ok]
  have hr1 : r1.length = 38 := h1.1.trans (by simp)
  have dg : ∀ (i : Nat) (s : Int), ([24, 24, 24, 24, 4, (10 : Int) ^ 40 - 1, 3] ++ [24, 24, 24, 24, 4, (10 : Int) ^ 40 - 1, 3] ++ List.replicate 24 24)[i]? = some s → 0 ≤ r1.getD i 0 ∧ r1.getD i 0 < s := fun i s hs => digs_at h1 hs
  have lp := perm_len pp
  have lq := perm_len pq
  have lr := perm_len pr
  rw [judged_ok h ld ⟨_, _, _, rfl, by omega, by omega, by omega⟩, pj_ok h ld pp pq pr (by omega) (dg 4 4 rfl) (dg 6 3 rfl)]
  refine Tr.bind (Q := fun b => b = false) (Tr.ok rfl) fun b hb => Tr.itF hb ?_
  refine Tr.bind (Q := fun d : List Int => d.Perm (upto n)) ?_ fun day pd => ?_
  · refine Tr.ite (fun _ => ?_) fun _ => Tr.ok pd
    obtain ⟨c2, e2⟩ := law_cell ns 2 (by omega) (by omega)
    rw [e2, Res.bind_ok]
    obtain ⟨row, er, q1, q2⟩ := dig27 c2
    rw [er, Res.bind_ok]
    obtain ⟨dd, ed, pdd⟩ := law_day27 (n := n) (r := row) (by omega) (by omega) q2
    rw [ed]
    exact Tr.ok pdd
  have ld := perm_len pd
  obtain ⟨tl, et, R⟩ := three_ok h pd
  rw [three_t (by omega), et]
  obtain ⟨f, g, k⟩ := tl
  dsimp only at R
  rw [Res.bind_ok, told_ok h ld R]
  refine Tr.bind (Q := fun b => b = false) (Tr.ok (by simp)) fun b hb => Tr.itF hb ?_
  rw [copy3]
  simp only [Res.bind_ok]
  have cut14 : cutN r1 (some 14) none = r1.drop 14 := drop_cut27 (k := 14) (by omega)
  have tail : ∀ x ∈ r1.drop 14, 0 ≤ x := fun x hx => by
    obtain ⟨i, hi⟩ := List.mem_iff_getElem?.mp (List.mem_of_mem_drop hx)
    have hil : i < r1.length := (List.getElem?_eq_some_iff.mp hi).1
    have hs := List.getElem?_eq_getElem (l := [24, 24, 24, 24, 4, (10 : Int) ^ 40 - 1, 3] ++ [24, 24, 24, 24, 4, (10 : Int) ^ 40 - 1, 3] ++ List.replicate 24 24) (i := i) (by rw [← h1.1]; exact hil)
    have := (dg i _ hs).1
    rw [List.getD_eq_getElem?_getD, hi] at this
    exact this
  rw [cut14]
  obtain ⟨turn, eturn, pturn⟩ := law_day27 (n := a) (r := r1.drop 14) (by omega) (by rw [List.length_drop]; omega) tail
  rw [eturn, Res.bind_ok]
  refine Tr.bind (ren_ok h R (turn := turn) (by rw [show ((a : Int)).toNat = a by omega]; exact pturn)) fun L hL => ?_
  obtain ⟨p', q', r', rfl, R'⟩ := hL
  obtain ⟨b, eb, wb⟩ := right_ok (p := p') (q := q') (r := r') h ld
  have eb : N_law_right_i_i_li_lli a c day [p', q', r'] = .ok true := by rw [eb, wb.mpr R']
  have l1 := perm_len R'.pp
  have l2 := perm_len R'.pq
  have l3 := perm_len R'.pr
  rw [eb, judged_ok h ld ⟨p', q', r', rfl, by omega, by omega, by omega⟩]
  refine Tr.bind (Q := fun b => b = false) (Tr.ok rfl) fun b hb => Tr.itF hb ?_
  have cut7 : cutN r1 (some 7) (some 14) = (r1.drop 7).take 7 := by
    unfold cutN
    have s7 : HT.sIx r1.length 0 (some 7) = 7 := by
      have := HT.sIx_nat r1.length 0 7
      rw [show (some (7 : Int)) = some ((7 : Nat) : Int) from rfl, this]
      omega
    have s14 : HT.sIx r1.length r1.length (some 14) = 14 := by
      have := HT.sIx_nat r1.length r1.length 14
      rw [show (some (14 : Int)) = some ((14 : Nat) : Int) from rfl, this]
      omega
    rw [s7, s14]
  have g7 : ∀ i : Nat, i < 7 → gt ((r1.drop 7).take 7) (i : Int) = r1.getD (7 + i) 0 := fun i hi => by
    unfold gt
    rw [List.getD_eq_getElem?_getD, List.getElem?_take, if_pos (by omega), List.getElem?_drop, List.getD_eq_getElem?_getD]
    rfl
  rw [cut7, pj_ok h ld R.pp R.pq R.pr (by rw [List.length_take, List.length_drop]; omega) (by rw [show (4 : Int) = ((4 : Nat) : Int) from rfl, g7 4 (by omega)]; exact dg 11 4 rfl) (by rw [show (6 : Int) = ((6 : Nat) : Int) from rfl, g7 6 (by omega)]; exact dg 13 3 rfl)]
  refine Tr.bind (Q := fun b => b = false) (Tr.ok rfl) fun b hb => Tr.itF hb ?_
  exact Tr.ok (by simp)
theorem law_true (ns : List Int) (_ : ns.length ≤ 63) (_ : ∀ z ∈ ns, Builtin.Int.intBits z ≤ 1048576) : m_law [.frl (ns.map D.int)] = .ok (.bl true) := rf_use (n_law_fi ns) (law_ok ns).eq
end Kx
namespace Kx
open PySem PySem.Spec L2 Da
theorem all_mk {P : Program} {w : World} {K : PySem.W.Frag} {h : Heap} {mg : Str → Option Value} {fa : Addr} (X : K.In h) (G : h.Ns mainGlobals mg) (hfa : mg "law" = some (.ref fa))
    {C0 : Addr}
    (xc0 : PySem.W.nsIn K mainGlobals "Matching" = some (some (.ref C0))) (xp0 : PySem.W.plainGet K C0 Str.empty = true) (xh0 : PySem.W.hasDictIn K C0 = true) (xo0 : PySem.W.plainOver K C0 = true) (xs0 : PySem.W.findIn K (.ref C0) "__setattr__" = some (some (.builtin "object.__setattr__")))
    (xf_Matching_count : PySem.W.findIn K (.ref C0) "count" = some none)
    (xf_Matching_goals : PySem.W.findIn K (.ref C0) "goals" = some none)
    (xf_Matching_partners : PySem.W.findIn K (.ref C0) "partners" = some none)
    (xf_Matching_senders : PySem.W.findIn K (.ref C0) "senders" = some none)
    {f0 f1 f2 f3 f4 f5 f6 f7 f8 f9 f10 f11 f12 f13 f14 f15 f16 f17 f18 f19 f20 f21 f22 f23 f24 f25 f26 f27 f28 f29 f30 f31 f32 f33 : Addr} {od0 an0 od1 an1 od2 an2 od3 an3 od4 an4 od5 an5 od6 an6 od7 an7 od8 an8 od9 an9 od10 an10 od11 an11 od12 an12 od13 an13 od14 an14 od15 an15 od16 an16 od17 an17 od18 an18 od19 an19 od20 an20 od21 an21 od22 an22 od23 an23 od24 an24 od25 an25 od26 an26 od27 an27 od28 an28 od29 an29 od30 an30 od31 an31 od32 an32 od33 an33 : Option Addr} {sl0 sl1 sl2 sl3 sl4 sl5 sl6 sl7 sl8 sl9 sl10 sl11 sl12 sl13 sl14 sl15 sl16 sl17 sl18 sl19 sl20 sl21 sl22 sl23 sl24 sl25 sl26 sl27 sl28 sl29 sl30 sl31 sl32 sl33 : Array (Option Value)} {oc0 kv0 dc0 pm0 cd0 ct0 oc1 kv1 dc1 pm1 cd1 ct1 oc2 kv2 dc2 pm2 cd2 ct2 oc3 kv3 dc3 pm3 cd3 ct3 oc4 kv4 dc4 pm4 cd4 ct4 oc5 kv5 dc5 pm5 cd5 ct5 oc6 kv6 dc6 pm6 cd6 ct6 oc7 kv7 dc7 pm7 cd7 ct7 oc8 kv8 dc8 pm8 cd8 ct8 oc9 kv9 dc9 pm9 cd9 ct9 oc10 kv10 dc10 pm10 cd10 ct10 oc11 kv11 dc11 pm11 cd11 ct11 oc12 kv12 dc12 pm12 cd12 ct12 oc13 kv13 dc13 pm13 cd13 ct13 oc14 kv14 dc14 pm14 cd14 ct14 oc15 kv15 dc15 pm15 cd15 ct15 oc16 kv16 dc16 pm16 cd16 ct16 oc17 kv17 dc17 pm17 cd17 ct17 oc18 kv18 dc18 pm18 cd18 ct18 oc19 kv19 dc19 pm19 cd19 ct19 oc20 kv20 dc20 pm20 cd20 ct20 oc21 kv21 dc21 pm21 cd21 ct21 oc22 kv22 dc22 pm22 cd22 ct22 oc23 kv23 dc23 pm23 cd23 ct23 oc24 kv24 dc24 pm24 cd24 ct24 oc25 kv25 dc25 pm25 cd25 ct25 oc26 kv26 dc26 pm26 cd26 ct26 oc27 kv27 dc27 pm27 cd27 ct27 oc28 kv28 dc28 pm28 cd28 ct28 oc29 kv29 dc29 pm29 cd29 ct29 oc30 kv30 dc30 pm30 cd30 ct30 oc31 kv31 dc31 pm31 cd31 ct31 oc32 kv32 dc32 pm32 cd32 ct32 oc33 kv33 dc33 pm33 cd33 ct33 : Value}
    (a0 : PySem.W.nsIn K mainGlobals "_law_digits" = some (some (.ref f0))) (l0 : K.lookup f0 = some ⟨oc0, od0, .func (PySem.W.fnOf "_law_digits" "_law_digits" (defArgs s_law_digits) (defBody s_law_digits) (defScope s_law_digits) .none kv0 dc0 pm0 an0 cd0 ct0), sl0⟩) (c0 : PySem.W.codeIn K cd0 "_law_digits" = true) (k0 : PySem.W.keepIn K (.ref f0) = true)
    (a1 : PySem.W.nsIn K mainGlobals "_law_day" = some (some (.ref f1))) (l1 : K.lookup f1 = some ⟨oc1, od1, .func (PySem.W.fnOf "_law_day" "_law_day" (defArgs s_law_day27) (defBody s_law_day27) (defScope s_law_day27) .none kv1 dc1 pm1 an1 cd1 ct1), sl1⟩) (c1 : PySem.W.codeIn K cd1 "_law_day" = true) (k1 : PySem.W.keepIn K (.ref f1) = true)
    (a2 : PySem.W.nsIn K mainGlobals "_law_drawn_legs" = some (some (.ref f2))) (l2 : K.lookup f2 = some ⟨oc2, od2, .func (PySem.W.fnOf "_law_drawn_legs" "_law_drawn_legs" (defArgs s_law_drawn_legs) (defBody s_law_drawn_legs) (defScope s_law_drawn_legs) .none kv2 dc2 pm2 an2 cd2 ct2), sl2⟩) (c2 : PySem.W.codeIn K cd2 "_law_drawn_legs" = true) (k2 : PySem.W.keepIn K (.ref f2) = true)
    (a3 : PySem.W.nsIn K mainGlobals "_law_composed" = some (some (.ref f3))) (l3 : K.lookup f3 = some ⟨oc3, od3, .func (PySem.W.fnOf "_law_composed" "_law_composed" (defArgs s_law_composed) (defBody s_law_composed) (defScope s_law_composed) .none kv3 dc3 pm3 an3 cd3 ct3), sl3⟩) (c3 : PySem.W.codeIn K cd3 "_law_composed" = true) (k3 : PySem.W.keepIn K (.ref f3) = true)
    (a4 : PySem.W.nsIn K mainGlobals "frozen" = some (some (.ref f4))) (l4 : K.lookup f4 = some ⟨oc4, od4, .func (PySem.W.fnOf "frozen" "frozen" (defArgs s_frozen) (defBody s_frozen) (defScope s_frozen) .none kv4 dc4 pm4 an4 cd4 ct4), sl4⟩) (c4 : PySem.W.codeIn K cd4 "frozen" = true) (k4 : PySem.W.keepIn K (.ref f4) = true)
    (a5 : PySem.W.nsIn K mainGlobals "check_square" = some (some (.ref f5))) (l5 : K.lookup f5 = some ⟨oc5, od5, .func (PySem.W.fnOf "check_square" "check_square" (defArgs s_check_square) (defBody s_check_square) (defScope s_check_square) .none kv5 dc5 pm5 an5 cd5 ct5), sl5⟩) (c5 : PySem.W.codeIn K cd5 "check_square" = true) (k5 : PySem.W.keepIn K (.ref f5) = true)
    (a6 : PySem.W.nsIn K mainGlobals "search" = some (some (.ref f6))) (l6 : K.lookup f6 = some ⟨oc6, od6, .func (PySem.W.fnOf "search" "search" (defArgs s_search) (defBody s_search) (defScope s_search) .none kv6 dc6 pm6 an6 cd6 ct6), sl6⟩) (c6 : PySem.W.codeIn K cd6 "search" = true) (k6 : PySem.W.keepIn K (.ref f6) = true)
    (a7 : PySem.W.nsIn K mainGlobals "changed_owners" = some (some (.ref f7))) (l7 : K.lookup f7 = some ⟨oc7, od7, .func (PySem.W.fnOf "changed_owners" "changed_owners" (defArgs s_changed_owners) (defBody s_changed_owners) (defScope s_changed_owners) .none kv7 dc7 pm7 an7 cd7 ct7), sl7⟩) (c7 : PySem.W.codeIn K cd7 "changed_owners" = true) (k7 : PySem.W.keepIn K (.ref f7) = true)
    (a8 : PySem.W.nsIn K mainGlobals "greatest_owners" = some (some (.ref f8))) (l8 : K.lookup f8 = some ⟨oc8, od8, .func (PySem.W.fnOf "greatest_owners" "greatest_owners" (defArgs s_greatest_owners) (defBody s_greatest_owners) (defScope s_greatest_owners) .none kv8 dc8 pm8 an8 cd8 ct8), sl8⟩) (c8 : PySem.W.codeIn K cd8 "greatest_owners" = true) (k8 : PySem.W.keepIn K (.ref f8) = true)
    (a9 : PySem.W.nsIn K mainGlobals "reached_goals" = some (some (.ref f9))) (l9 : K.lookup f9 = some ⟨oc9, od9, .func (PySem.W.fnOf "reached_goals" "reached_goals" (defArgs s_reached_goals) (defBody s_reached_goals) (defScope s_reached_goals) .none kv9 dc9 pm9 an9 cd9 ct9), sl9⟩) (c9 : PySem.W.codeIn K cd9 "reached_goals" = true) (k9 : PySem.W.keepIn K (.ref f9) = true)
    (a10 : PySem.W.findIn K (.ref C0) "__init__" = some (some (.ref f10))) (ya10 : PySem.W.makesIn K C0 = true) (yb10 : PySem.W.isFn K (.ref f10) = true) (yc10 : PySem.W.keepIn K (.ref C0) = true)
    (l10 : K.lookup f10 = some ⟨oc10, od10, .func (PySem.W.fnOf "__init__" "Matching.__init__" (defArgs s_Matching_init) (defBody s_Matching_init) (defScope s_Matching_init) .none kv10 dc10 pm10 an10 cd10 ct10), sl10⟩) (c10 : PySem.W.codeIn K cd10 "Matching.__init__" = true) (k10 : PySem.W.keepIn K (.ref f10) = true)
    (a11 : PySem.W.nsIn K mainGlobals "greatest_matching" = some (some (.ref f11))) (l11 : K.lookup f11 = some ⟨oc11, od11, .func (PySem.W.fnOf "greatest_matching" "greatest_matching" (defArgs s_greatest_matching) (defBody s_greatest_matching) (defScope s_greatest_matching) .none kv11 dc11 pm11 an11 cd11 ct11), sl11⟩) (c11 : PySem.W.codeIn K cd11 "greatest_matching" = true) (k11 : PySem.W.keepIn K (.ref f11) = true)
    (a12 : PySem.W.nsIn K mainGlobals "perfect_partners" = some (some (.ref f12))) (l12 : K.lookup f12 = some ⟨oc12, od12, .func (PySem.W.fnOf "perfect_partners" "perfect_partners" (defArgs s_perfect_partners) (defBody s_perfect_partners) (defScope s_perfect_partners) .none kv12 dc12 pm12 an12 cd12 ct12), sl12⟩) (c12 : PySem.W.codeIn K cd12 "perfect_partners" = true) (k12 : PySem.W.keepIn K (.ref f12) = true)
    (a13 : PySem.W.nsIn K mainGlobals "parted" = some (some (.ref f13))) (l13 : K.lookup f13 = some ⟨oc13, od13, .func (PySem.W.fnOf "parted" "parted" (defArgs s_parted) (defBody s_parted) (defScope s_parted) .none kv13 dc13 pm13 an13 cd13 ct13), sl13⟩) (c13 : PySem.W.codeIn K cd13 "parted" = true) (k13 : PySem.W.keepIn K (.ref f13) = true)
    (a14 : PySem.W.nsIn K mainGlobals "column_square" = some (some (.ref f14))) (l14 : K.lookup f14 = some ⟨oc14, od14, .func (PySem.W.fnOf "column_square" "column_square" (defArgs s_column_square) (defBody s_column_square) (defScope s_column_square) .none kv14 dc14 pm14 an14 cd14 ct14), sl14⟩) (c14 : PySem.W.codeIn K cd14 "column_square" = true) (k14 : PySem.W.keepIn K (.ref f14) = true)
    (a15 : PySem.W.nsIn K mainGlobals "chosen_rows" = some (some (.ref f15))) (l15 : K.lookup f15 = some ⟨oc15, od15, .func (PySem.W.fnOf "chosen_rows" "chosen_rows" (defArgs s_chosen_rows) (defBody s_chosen_rows) (defScope s_chosen_rows) .none kv15 dc15 pm15 an15 cd15 ct15), sl15⟩) (c15 : PySem.W.codeIn K cd15 "chosen_rows" = true) (k15 : PySem.W.keepIn K (.ref f15) = true)
    (a16 : PySem.W.nsIn K mainGlobals "three_legs" = some (some (.ref f16))) (l16 : K.lookup f16 = some ⟨oc16, od16, .func (PySem.W.fnOf "three_legs" "three_legs" (defArgs s_three_legs) (defBody s_three_legs) (defScope s_three_legs) .none kv16 dc16 pm16 an16 cd16 ct16), sl16⟩) (c16 : PySem.W.codeIn K cd16 "three_legs" = true) (k16 : PySem.W.keepIn K (.ref f16) = true)
    (a17 : PySem.W.nsIn K mainGlobals "_law_renumbered" = some (some (.ref f17))) (l17 : K.lookup f17 = some ⟨oc17, od17, .func (PySem.W.fnOf "_law_renumbered" "_law_renumbered" (defArgs s_law_renumbered) (defBody s_law_renumbered) (defScope s_law_renumbered) .none kv17 dc17 pm17 an17 cd17 ct17), sl17⟩) (c17 : PySem.W.codeIn K cd17 "_law_renumbered" = true) (k17 : PySem.W.keepIn K (.ref f17) = true)
    (a18 : PySem.W.nsIn K mainGlobals "_law_cell" = some (some (.ref f18))) (l18 : K.lookup f18 = some ⟨oc18, od18, .func (PySem.W.fnOf "_law_cell" "_law_cell" (defArgs s_law_cell) (defBody s_law_cell) (defScope s_law_cell) .none kv18 dc18 pm18 an18 cd18 ct18), sl18⟩) (c18 : PySem.W.codeIn K cd18 "_law_cell" = true) (k18 : PySem.W.keepIn K (.ref f18) = true)
    (a19 : PySem.W.nsIn K mainGlobals "_law_rerouted" = some (some (.ref f19))) (l19 : K.lookup f19 = some ⟨oc19, od19, .func (PySem.W.fnOf "_law_rerouted" "_law_rerouted" (defArgs s_law_rerouted) (defBody s_law_rerouted) (defScope s_law_rerouted) .none kv19 dc19 pm19 an19 cd19 ct19), sl19⟩) (c19 : PySem.W.codeIn K cd19 "_law_rerouted" = true) (k19 : PySem.W.keepIn K (.ref f19) = true)
    (a20 : PySem.W.nsIn K mainGlobals "_law_swapped" = some (some (.ref f20))) (l20 : K.lookup f20 = some ⟨oc20, od20, .func (PySem.W.fnOf "_law_swapped" "_law_swapped" (defArgs s_law_swapped) (defBody s_law_swapped) (defScope s_law_swapped) .none kv20 dc20 pm20 an20 cd20 ct20), sl20⟩) (c20 : PySem.W.codeIn K cd20 "_law_swapped" = true) (k20 : PySem.W.keepIn K (.ref f20) = true)
    (a21 : PySem.W.nsIn K mainGlobals "_law_replaced" = some (some (.ref f21))) (l21 : K.lookup f21 = some ⟨oc21, od21, .func (PySem.W.fnOf "_law_replaced" "_law_replaced" (defArgs s_law_replaced) (defBody s_law_replaced) (defScope s_law_replaced) .none kv21 dc21 pm21 an21 cd21 ct21), sl21⟩) (c21 : PySem.W.codeIn K cd21 "_law_replaced" = true) (k21 : PySem.W.keepIn K (.ref f21) = true)
    (a22 : PySem.W.nsIn K mainGlobals "_law_papers" = some (some (.ref f22))) (l22 : K.lookup f22 = some ⟨oc22, od22, .func (PySem.W.fnOf "_law_papers" "_law_papers" (defArgs s_law_papers) (defBody s_law_papers) (defScope s_law_papers) .none kv22 dc22 pm22 an22 cd22 ct22), sl22⟩) (c22 : PySem.W.codeIn K cd22 "_law_papers" = true) (k22 : PySem.W.keepIn K (.ref f22) = true)
    (a23 : PySem.W.nsIn K mainGlobals "_law_right" = some (some (.ref f23))) (l23 : K.lookup f23 = some ⟨oc23, od23, .func (PySem.W.fnOf "_law_right" "_law_right" (defArgs s_law_right) (defBody s_law_right) (defScope s_law_right) .none kv23 dc23 pm23 an23 cd23 ct23), sl23⟩) (c23 : PySem.W.codeIn K cd23 "_law_right" = true) (k23 : PySem.W.keepIn K (.ref f23) = true)
    (a24 : PySem.W.nsIn K mainGlobals "keeps" = some (some (.ref f24))) (l24 : K.lookup f24 = some ⟨oc24, od24, .func (PySem.W.fnOf "keeps" "keeps" (defArgs s_keeps) (defBody s_keeps) (defScope s_keeps) .none kv24 dc24 pm24 an24 cd24 ct24), sl24⟩) (c24 : PySem.W.codeIn K cd24 "keeps" = true) (k24 : PySem.W.keepIn K (.ref f24) = true)
    (a25 : PySem.W.nsIn K mainGlobals "is_number" = some (some (.ref f25))) (l25 : K.lookup f25 = some ⟨oc25, od25, .func (PySem.W.fnOf "is_number" "is_number" (defArgs s_is_number) (defBody s_is_number) (defScope s_is_number) .none kv25 dc25 pm25 an25 cd25 ct25), sl25⟩) (c25 : PySem.W.codeIn K cd25 "is_number" = true) (k25 : PySem.W.keepIn K (.ref f25) = true)
    (a26 : PySem.W.nsIn K mainGlobals "is_perm" = some (some (.ref f26))) (l26 : K.lookup f26 = some ⟨oc26, od26, .func (PySem.W.fnOf "is_perm" "is_perm" (defArgs s_is_perm) (defBody s_is_perm) (defScope s_is_perm) .none kv26 dc26 pm26 an26 cd26 ct26), sl26⟩) (c26 : PySem.W.codeIn K cd26 "is_perm" = true) (k26 : PySem.W.keepIn K (.ref f26) = true)
    (a27 : PySem.W.nsIn K mainGlobals "is_day" = some (some (.ref f27))) (l27 : K.lookup f27 = some ⟨oc27, od27, .func (PySem.W.fnOf "is_day" "is_day" (defArgs s_is_day) (defBody s_is_day) (defScope s_is_day) .none kv27 dc27 pm27 an27 cd27 ct27), sl27⟩) (c27 : PySem.W.codeIn K cd27 "is_day" = true) (k27 : PySem.W.keepIn K (.ref f27) = true)
    (a28 : PySem.W.nsIn K mainGlobals "are_legs" = some (some (.ref f28))) (l28 : K.lookup f28 = some ⟨oc28, od28, .func (PySem.W.fnOf "are_legs" "are_legs" (defArgs s_are_legs) (defBody s_are_legs) (defScope s_are_legs) .none kv28 dc28 pm28 an28 cd28 ct28), sl28⟩) (c28 : PySem.W.codeIn K cd28 "are_legs" = true) (k28 : PySem.W.keepIn K (.ref f28) = true)
    (a29 : PySem.W.nsIn K mainGlobals "_law_judged" = some (some (.ref f29))) (l29 : K.lookup f29 = some ⟨oc29, od29, .func (PySem.W.fnOf "_law_judged" "_law_judged" (defArgs s_law_judged) (defBody s_law_judged) (defScope s_law_judged) .none kv29 dc29 pm29 an29 cd29 ct29), sl29⟩) (c29 : PySem.W.codeIn K cd29 "_law_judged" = true) (k29 : PySem.W.keepIn K (.ref f29) = true)
    (a30 : PySem.W.nsIn K mainGlobals "_law_papers_judged" = some (some (.ref f30))) (l30 : K.lookup f30 = some ⟨oc30, od30, .func (PySem.W.fnOf "_law_papers_judged" "_law_papers_judged" (defArgs s_law_papers_judged) (defBody s_law_papers_judged) (defScope s_law_papers_judged) .none kv30 dc30 pm30 an30 cd30 ct30), sl30⟩) (c30 : PySem.W.codeIn K cd30 "_law_papers_judged" = true) (k30 : PySem.W.keepIn K (.ref f30) = true)
    (a31 : PySem.W.nsIn K mainGlobals "_law_whole" = some (some (.ref f31))) (l31 : K.lookup f31 = some ⟨oc31, od31, .func (PySem.W.fnOf "_law_whole" "_law_whole" (defArgs s_law_whole) (defBody s_law_whole) (defScope s_law_whole) .none kv31 dc31 pm31 an31 cd31 ct31), sl31⟩) (c31 : PySem.W.codeIn K cd31 "_law_whole" = true) (k31 : PySem.W.keepIn K (.ref f31) = true)
    (a32 : PySem.W.nsIn K mainGlobals "_law_told_right" = some (some (.ref f32))) (l32 : K.lookup f32 = some ⟨oc32, od32, .func (PySem.W.fnOf "_law_told_right" "_law_told_right" (defArgs s_law_told_right) (defBody s_law_told_right) (defScope s_law_told_right) .none kv32 dc32 pm32 an32 cd32 ct32), sl32⟩) (c32 : PySem.W.codeIn K cd32 "_law_told_right" = true) (k32 : PySem.W.keepIn K (.ref f32) = true)
    (a33 : PySem.W.nsIn K mainGlobals "law" = some (some (.ref f33))) (l33 : K.lookup f33 = some ⟨oc33, od33, .func (PySem.W.fnOf "law" "law" (defArgs s_law) (defBody s_law) (defScope s_law) .none kv33 dc33 pm33 an33 cd33 ct33), sl33⟩) (c33 : PySem.W.codeIn K cd33 "law" = true) (k33 : PySem.W.keepIn K (.ref f33) = true)
    {E0 E1 : Addr} {Ef0 Ex0 Ef1 Ex1 : Addr}
    (ea0 : PySem.W.nsIn K mainGlobals "BadEntry" = some (some (.ref E0)))
    {en0 eq0 : Str} {eb0 em0 : List Value} {esn0 : _} {esu0 : _} {eab0 : _} {eco0 : _} {edd0 : _} {ek00 : _} {ek10 : _} {ek20 : _} {ek30 : _} {ek50 : _}
    (el0 : K.lookup E0 = some (excClassObj en0 eq0 E0 Ex0 eb0 em0 true esn0 esu0 eab0 eco0 edd0 ek00 ek10 ek20 ek30 ek50 "ValueError.__new__")) (ev0 : PySem.HandSPX.refsVE em0 = true) (es0 : PySem.W.findIn K (.ref E0) "__setattr__" = some (some (.builtin "object.__setattr__"))) (et0 : PySem.W.subIn K (.ref E0) (.type "BaseException") = some true) (ey0 : PySem.W.typeIn K (.ref E0) = some (.type "type")) (ek0 : PySem.W.keepIn K (.ref E0) = true)
    (ei0 : PySem.W.findIn K (.ref E0) "__init__" = some (some (.ref Ef0))) (ej0 : PySem.W.typeIn K (.ref Ef0) = some (.type "function"))
    {eoc0 ekv0 edc0 epm0 ecd0 ect0 : Value} {eod0 ean0 : Option Addr} {esl0 : Array (Option Value)} (eu0 : K.lookup Ef0 = some ⟨eoc0, eod0, .func (PySem.W.fnOf "__init__" "BadEntry.__init__" (defArgs s_BadEntry_init) (defBody s_BadEntry_init) (defScope s_BadEntry_init) .none ekv0 edc0 epm0 ean0 ecd0 ect0), esl0⟩) (ew0 : PySem.W.codeIn K ecd0 "BadEntry.__init__" = true) (ez0 : PySem.W.keepIn K (.ref Ef0) = true)
    (eg0_row : PySem.W.findIn K (.ref E0) "row" = some none)
    (eg0_column : PySem.W.findIn K (.ref E0) "column" = some none)
    (ea1 : PySem.W.nsIn K mainGlobals "Uneven" = some (some (.ref E1)))
    {en1 eq1 : Str} {eb1 em1 : List Value} {esn1 : _} {esu1 : _} {eab1 : _} {eco1 : _} {edd1 : _} {ek01 : _} {ek11 : _} {ek21 : _} {ek31 : _} {ek51 : _}
    (el1 : K.lookup E1 = some (excClassObj en1 eq1 E1 Ex1 eb1 em1 true esn1 esu1 eab1 eco1 edd1 ek01 ek11 ek21 ek31 ek51 "ValueError.__new__")) (ev1 : PySem.HandSPX.refsVE em1 = true) (es1 : PySem.W.findIn K (.ref E1) "__setattr__" = some (some (.builtin "object.__setattr__"))) (et1 : PySem.W.subIn K (.ref E1) (.type "BaseException") = some true) (ey1 : PySem.W.typeIn K (.ref E1) = some (.type "type")) (ek1 : PySem.W.keepIn K (.ref E1) = true)
    (ei1 : PySem.W.findIn K (.ref E1) "__init__" = some (some (.ref Ef1))) (ej1 : PySem.W.typeIn K (.ref Ef1) = some (.type "function"))
    {eoc1 ekv1 edc1 epm1 ecd1 ect1 : Value} {eod1 ean1 : Option Addr} {esl1 : Array (Option Value)} (eu1 : K.lookup Ef1 = some ⟨eoc1, eod1, .func (PySem.W.fnOf "__init__" "Uneven.__init__" (defArgs s_Uneven_init) (defBody s_Uneven_init) (defScope s_Uneven_init) .none ekv1 edc1 epm1 ean1 ecd1 ect1), esl1⟩) (ew1 : PySem.W.codeIn K ecd1 "Uneven.__init__" = true) (ez1 : PySem.W.keepIn K (.ref Ef1) = true)
    (eg1_index : PySem.W.findIn K (.ref E1) "index" = some none)
    (z0 : PySem.W.nsIn K mainGlobals "all" = some none)
    (z1 : PySem.W.nsIn K mainGlobals "bool" = some none)
    (z2 : PySem.W.nsIn K mainGlobals "enumerate" = some none)
    (z3 : PySem.W.nsIn K mainGlobals "int" = some none)
    (z4 : PySem.W.nsIn K mainGlobals "isinstance" = some none)
    (z5 : PySem.W.nsIn K mainGlobals "len" = some none)
    (z6 : PySem.W.nsIn K mainGlobals "list" = some none)
    (z7 : PySem.W.nsIn K mainGlobals "max" = some none)
    (z8 : PySem.W.nsIn K mainGlobals "range" = some none)
    (z9 : PySem.W.nsIn K mainGlobals "sorted" = some none)
    (z10 : PySem.W.nsIn K mainGlobals "sum" = some none)
    (z11 : PySem.W.nsIn K mainGlobals "tuple" = some none)
    : ∃ fd : FuncData, (∀ (s : Shared) (u : Value), BindsTo s fd ⟨[u], []⟩ [("script", u)]) ∧ ∀ base : Heap, K.In base → base.Ns mainGlobals mg → FnOk P w K mg base (L2.CX P w) 12 fa fd ["script"] (spLaw K) := by
  have e := hfa.symm.trans (PySem.W.mg_of X G a33)
  cases e
  have T : Txt K mg :=
    { d_law_digits := defAt_mk X G a0 l0 c0 k0 fun _ _ _ _ _ _ us hl => match us, hl with | [_, _], _ => rfl
      d_law_day27 := defAt_mk X G a1 l1 c1 k1 fun _ _ _ _ _ _ us hl => match us, hl with | [_, _], _ => rfl
      d_law_drawn_legs := defAt_mk X G a2 l2 c2 k2 fun _ _ _ _ _ _ us hl => match us, hl with | [_, _, _, _, _], _ => rfl
      d_law_composed := defAt_mk X G a3 l3 c3 k3 fun _ _ _ _ _ _ us hl => match us, hl with | [_], _ => rfl
      d_frozen := defAt_mk X G a4 l4 c4 k4 fun _ _ _ _ _ _ us hl => match us, hl with | [_], _ => rfl
      d_check_square := defAt_mk X G a5 l5 c5 k5 fun _ _ _ _ _ _ us hl => match us, hl with | [_], _ => rfl
      d_search := defAt_mk X G a6 l6 c6 k6 fun _ _ _ _ _ _ us hl => match us, hl with | [_, _, _], _ => rfl
      d_changed_owners := defAt_mk X G a7 l7 c7 k7 fun _ _ _ _ _ _ us hl => match us, hl with | [_, _, _, _], _ => rfl
      d_greatest_owners := defAt_mk X G a8 l8 c8 k8 fun _ _ _ _ _ _ us hl => match us, hl with | [_], _ => rfl
      d_reached_goals := defAt_mk X G a9 l9 c9 k9 fun _ _ _ _ _ _ us hl => match us, hl with | [_, _, _], _ => rfl
      d_Matching_init := initAt_mk X G xc0 ya10 a10 yb10 yc10 l10 c10 k10 fun _ _ _ _ _ _ us hl => match us, hl with | [_, _, _, _, _], _ => rfl
      d_greatest_matching := defAt_mk X G a11 l11 c11 k11 fun _ _ _ _ _ _ us hl => match us, hl with | [_], _ => rfl
      d_perfect_partners := defAt_mk X G a12 l12 c12 k12 fun _ _ _ _ _ _ us hl => match us, hl with | [_], _ => rfl
      d_parted := defAt_mk X G a13 l13 c13 k13 fun _ _ _ _ _ _ us hl => match us, hl with | [_], _ => rfl
      d_column_square := defAt_mk X G a14 l14 c14 k14 fun _ _ _ _ _ _ us hl => match us, hl with | [_, _, _], _ => rfl
      d_chosen_rows := defAt_mk X G a15 l15 c15 k15 fun _ _ _ _ _ _ us hl => match us, hl with | [_, _, _], _ => rfl
      d_three_legs := defAt_mk X G a16 l16 c16 k16 fun _ _ _ _ _ _ us hl => match us, hl with | [_, _, _], _ => rfl
      d_law_renumbered := defAt_mk X G a17 l17 c17 k17 fun _ _ _ _ _ _ us hl => match us, hl with | [_, _, _], _ => rfl
      d_law_cell := defAt_mk X G a18 l18 c18 k18 fun _ _ _ _ _ _ us hl => match us, hl with | [_, _], _ => rfl
      d_law_rerouted := defAt_mk X G a19 l19 c19 k19 fun _ _ _ _ _ _ us hl => match us, hl with | [_, _, _, _], _ => rfl
      d_law_swapped := defAt_mk X G a20 l20 c20 k20 fun _ _ _ _ _ _ us hl => match us, hl with | [_, _, _, _], _ => rfl
      d_law_replaced := defAt_mk X G a21 l21 c21 k21 fun _ _ _ _ _ _ us hl => match us, hl with | [_, _, _], _ => rfl
      d_law_papers := defAt_mk X G a22 l22 c22 k22 fun _ _ _ _ _ _ us hl => match us, hl with | [_, _, _, _, _, _, _], _ => rfl
      d_law_right := defAt_mk X G a23 l23 c23 k23 fun _ _ _ _ _ _ us hl => match us, hl with | [_, _, _, _], _ => rfl
      d_keeps := defAt_mk X G a24 l24 c24 k24 fun _ _ _ _ _ _ us hl => match us, hl with | [_, _, _], _ => rfl
      d_is_number := defAt_mk X G a25 l25 c25 k25 fun _ _ _ _ _ _ us hl => match us, hl with | [_], _ => rfl
      d_is_perm := defAt_mk X G a26 l26 c26 k26 fun _ _ _ _ _ _ us hl => match us, hl with | [_, _], _ => rfl
      d_is_day := defAt_mk X G a27 l27 c27 k27 fun _ _ _ _ _ _ us hl => match us, hl with | [_, _], _ => rfl
      d_are_legs := defAt_mk X G a28 l28 c28 k28 fun _ _ _ _ _ _ us hl => match us, hl with | [_, _, _, _], _ => rfl
      d_law_judged := defAt_mk X G a29 l29 c29 k29 fun _ _ _ _ _ _ us hl => match us, hl with | [_, _, _, _], _ => rfl
      d_law_papers_judged := defAt_mk X G a30 l30 c30 k30 fun _ _ _ _ _ _ us hl => match us, hl with | [_, _, _, _, _], _ => rfl
      d_law_whole := defAt_mk X G a31 l31 c31 k31 fun _ _ _ _ _ _ us hl => match us, hl with | [_], _ => rfl
      d_law_told_right := defAt_mk X G a32 l32 c32 k32 fun _ _ _ _ _ _ us hl => match us, hl with | [_, _, _, _], _ => rfl
      z_all := PySem.W.mg_none_of X G z0
      z_bool := PySem.W.mg_none_of X G z1
      z_enumerate := PySem.W.mg_none_of X G z2
      z_int := PySem.W.mg_none_of X G z3
      z_isinstance := PySem.W.mg_none_of X G z4
      z_len := PySem.W.mg_none_of X G z5
      z_list := PySem.W.mg_none_of X G z6
      z_max := PySem.W.mg_none_of X G z7
      z_range := PySem.W.mg_none_of X G z8
      z_sorted := PySem.W.mg_none_of X G z9
      z_sum := PySem.W.mg_none_of X G z10
      z_tuple := PySem.W.mg_none_of X G z11
      f_Matching_count := fldAt_mk X G xc0 (cls_mk xp0 xh0 xo0 xs0) xf_Matching_count
      f_Matching_goals := fldAt_mk X G xc0 (cls_mk xp0 xh0 xo0 xs0) xf_Matching_goals
      f_Matching_partners := fldAt_mk X G xc0 (cls_mk xp0 xh0 xo0 xs0) xf_Matching_partners
      f_Matching_senders := fldAt_mk X G xc0 (cls_mk xp0 xh0 xo0 xs0) xf_Matching_senders
      e_BadEntry := errAt_mk X G ea0 el0 ev0 es0 et0 ey0 ek0 ei0 ej0 eu0 ew0 ez0 (fun _ _ _ _ _ _ us hl => match us, hl with | [_, _, _], _ => rfl) (errF eg0_row (errF eg0_column (fun g hg => nomatch hg)))
      e_Uneven := errAt_mk X G ea1 el1 ev1 es1 et1 ey1 ek1 ei1 ej1 eu1 ew1 ez1 (fun _ _ _ _ _ _ us hl => match us, hl with | [_, _], _ => rfl) (errF eg1_index (fun g hg => nomatch hg)) }
  exact ⟨_, fun s u => .of_eq rfl, fun base _ _ => law_imp (okf_law T (fun_mk (st := s_law) l33 c33 k33)) law_true⟩
end Kx
end
open PySem PySem.W PyProof.Rows
set_option maxRecDepth 100000 in
set_option maxHeartbeats 0 in
theorem PySem.Challenge.cw_nobadday_k27_three_legs_whole_holds : PySem.Challenge.rw_nobadday_k27_three_legs_whole.Holds := by
  w_on; o_law; k_head; (case hw => w_witness2)
  k_fill
  refine Da.walk_end (l := PySem.Challenge.rw_nobadday_k27_three_legs_whole) (k := 12) rfl rfl ⟨rfl, by decide, by decide⟩ (fun w h Y => PySem.W.kIn_of Y) ?F
  case F =>
    intro w mg fa h KX G hmg
    refine' Kx.all_mk KX G hmg ?xc0 ?xp0 ?xh0 ?xo0 ?xs0 ?xf_Matching_count ?xf_Matching_goals ?xf_Matching_partners ?xf_Matching_senders ?a0 ?l0 ?c0 ?k0 ?a1 ?l1 ?c1 ?k1 ?a2 ?l2 ?c2 ?k2 ?a3 ?l3 ?c3 ?k3 ?a4 ?l4 ?c4 ?k4 ?a5 ?l5 ?c5 ?k5 ?a6 ?l6 ?c6 ?k6 ?a7 ?l7 ?c7 ?k7 ?a8 ?l8 ?c8 ?k8 ?a9 ?l9 ?c9 ?k9 ?a10 ?ya10 ?yb10 ?yc10 ?l10 ?c10 ?k10 ?a11 ?l11 ?c11 ?k11 ?a12 ?l12 ?c12 ?k12 ?a13 ?l13 ?c13 ?k13 ?a14 ?l14 ?c14 ?k14 ?a15 ?l15 ?c15 ?k15 ?a16 ?l16 ?c16 ?k16 ?a17 ?l17 ?c17 ?k17 ?a18 ?l18 ?c18 ?k18 ?a19 ?l19 ?c19 ?k19 ?a20 ?l20 ?c20 ?k20 ?a21 ?l21 ?c21 ?k21 ?a22 ?l22 ?c22 ?k22 ?a23 ?l23 ?c23 ?k23 ?a24 ?l24 ?c24 ?k24 ?a25 ?l25 ?c25 ?k25 ?a26 ?l26 ?c26 ?k26 ?a27 ?l27 ?c27 ?k27 ?a28 ?l28 ?c28 ?k28 ?a29 ?l29 ?c29 ?k29 ?a30 ?l30 ?c30 ?k30 ?a31 ?l31 ?c31 ?k31 ?a32 ?l32 ?c32 ?k32 ?a33 ?l33 ?c33 ?k33 ?ea0 ?el0 ?ev0 ?es0 ?et0 ?ey0 ?ek0 ?ei0 ?ej0 ?eu0 ?ew0 ?ez0 ?eg0_row ?eg0_column ?ea1 ?el1 ?ev1 ?es1 ?et1 ?ey1 ?ek1 ?ei1 ?ej1 ?eu1 ?ew1 ?ez1 ?eg1_index ?z0 ?z1 ?z2 ?z3 ?z4 ?z5 ?z6 ?z7 ?z8 ?z9 ?z10 ?z11
    (case xc0 => k_is); (case xp0 => k_is); (case xh0 => k_is); (case xo0 => k_is); (case xs0 => k_is); (case xf_Matching_count => k_is); (case xf_Matching_goals => k_is); (case xf_Matching_partners => k_is)
    (case xf_Matching_senders => k_is); (case a0 => k_is); (case l0 => k_is); (case c0 => k_is); (case k0 => k_is); (case a1 => k_is); (case l1 => k_is); (case c1 => k_is)
    (case k1 => k_is); (case a2 => k_is); (case l2 => k_is); (case c2 => k_is); (case k2 => k_is); (case a3 => k_is); (case l3 => k_is); (case c3 => k_is)
    (case k3 => k_is); (case a4 => k_is); (case l4 => k_is); (case c4 => k_is); (case k4 => k_is); (case a5 => k_is); (case l5 => k_is); (case c5 => k_is)
    (case k5 => k_is); (case a6 => k_is); (case l6 => k_is); (case c6 => k_is); (case k6 => k_is); (case a7 => k_is); (case l7 => k_is); (case c7 => k_is)
    (case k7 => k_is); (case a8 => k_is); (case l8 => k_is); (case c8 => k_is); (case k8 => k_is); (case a9 => k_is); (case l9 => k_is); (case c9 => k_is)
    (case k9 => k_is); (case a10 => k_is); (case ya10 => k_is); (case yb10 => k_is); (case yc10 => k_is); (case l10 => k_is); (case c10 => k_is); (case k10 => k_is)
    (case a11 => k_is); (case l11 => k_is); (case c11 => k_is); (case k11 => k_is); (case a12 => k_is); (case l12 => k_is); (case c12 => k_is); (case k12 => k_is)
    (case a13 => k_is); (case l13 => k_is); (case c13 => k_is); (case k13 => k_is); (case a14 => k_is); (case l14 => k_is); (case c14 => k_is); (case k14 => k_is)
    (case a15 => k_is); (case l15 => k_is); (case c15 => k_is); (case k15 => k_is); (case a16 => k_is); (case l16 => k_is); (case c16 => k_is); (case k16 => k_is)
    (case a17 => k_is); (case l17 => k_is); (case c17 => k_is); (case k17 => k_is); (case a18 => k_is); (case l18 => k_is); (case c18 => k_is); (case k18 => k_is)
    (case a19 => k_is); (case l19 => k_is); (case c19 => k_is); (case k19 => k_is); (case a20 => k_is); (case l20 => k_is); (case c20 => k_is); (case k20 => k_is)
    (case a21 => k_is); (case l21 => k_is); (case c21 => k_is); (case k21 => k_is); (case a22 => k_is); (case l22 => k_is); (case c22 => k_is); (case k22 => k_is)
    (case a23 => k_is); (case l23 => k_is); (case c23 => k_is); (case k23 => k_is); (case a24 => k_is); (case l24 => k_is); (case c24 => k_is); (case k24 => k_is)
    (case a25 => k_is); (case l25 => k_is); (case c25 => k_is); (case k25 => k_is); (case a26 => k_is); (case l26 => k_is); (case c26 => k_is); (case k26 => k_is)
    (case a27 => k_is); (case l27 => k_is); (case c27 => k_is); (case k27 => k_is); (case a28 => k_is); (case l28 => k_is); (case c28 => k_is); (case k28 => k_is)
    (case a29 => k_is); (case l29 => k_is); (case c29 => k_is); (case k29 => k_is); (case a30 => k_is); (case l30 => k_is); (case c30 => k_is); (case k30 => k_is)
    (case a31 => k_is); (case l31 => k_is); (case c31 => k_is); (case k31 => k_is); (case a32 => k_is); (case l32 => k_is); (case c32 => k_is); (case k32 => k_is)
    (case a33 => k_is); (case l33 => k_is); (case c33 => k_is); (case k33 => k_is); (case ea0 => k_is); (case el0 => k_is); (case ev0 => kernel_rfl); (case es0 => k_is)
    (case et0 => k_is); (case ey0 => k_is); (case ek0 => k_is); (case ei0 => k_is); (case ej0 => k_is); (case eu0 => k_is); (case ew0 => k_is); (case ez0 => k_is)
    (case eg0_row => k_is); (case eg0_column => k_is); (case ea1 => k_is); (case el1 => k_is); (case ev1 => kernel_rfl); (case es1 => k_is); (case et1 => k_is); (case ey1 => k_is)
    (case ek1 => k_is); (case ei1 => k_is); (case ej1 => k_is); (case eu1 => k_is); (case ew1 => k_is); (case ez1 => k_is); (case eg1_index => k_is); (case z0 => k_is)
    (case z1 => k_is); (case z2 => k_is); (case z3 => k_is); (case z4 => k_is); (case z5 => k_is); (case z6 => k_is); (case z7 => k_is); (case z8 => k_is)
    (case z9 => k_is); (case z10 => k_is); (case z11 => k_is)
#print axioms PySem.Challenge.cw_nobadday_k27_three_legs_whole_holds
