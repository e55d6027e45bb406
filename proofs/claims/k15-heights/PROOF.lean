import PyProof.Rows.All
import Wide.All
import OpenK.AllK
import Wide.FinOn
import HandS.ForMost
import HandS.EndBits
import HandS.ForExc
import HandS.Wide
import HandS.Conv
import HandS.Style
import HandS.IsInst
import HandS.TupAny
import HandS.TupMul
import HandS.Deep
import HandS.Gcd
import HandS.Flow
import HandS.RevRange
import HandS.Rev
import HandS.Zip
import KE.SortData
import KE.GoesMore
import KE.OsSorts
import HandS.DictComp
import KE.KIndexOf
import HandS.Property
import KE.DataMinMax
import HandS.ExcInit
import HandS.ExcField
import HandS.ExcIs
import HandS.ExcOwn
import KE.KExcIs
import HandS.TupSets
import HandS.SetBool
import HandS.SetFor
import PyProof.Rows.SetFrom
import KE.KTupSum
import PyProof.DictUpdate
import HandS.HotCalls
import KE.DataCmp
import PySem.Challenge.RW_nobadday_k15_heights
set_option Elab.async false
set_option linter.all false
set_option maxRecDepth 100000
set_option maxHeartbeats 4000000
noncomputable section
namespace Da
open PySem PySem.Spec L2
/-- a check that nobody reckons out -/
@[irreducible] def stuck (p : Prop) : Bool := @decide p (Classical.propDecidable p)
theorem stuck_iff {p : Prop} : stuck p = true ↔ p := by unfold stuck; exact @decide_eq_true_iff p (Classical.propDecidable p)
/-- data, without the heap -/
inductive D where
  | non | bl (b : Bool) | int (i : Int) | str (s : Str)
  | lst (xs : List D) | tup (xs : List D) | frl (xs : List D)
  | dic (ks : List Key) (vs : List D) | dit (ks : List (List Key)) (vs : List D)
  | obj (c : Str) (ns : List Str) (vs : List D)
  /-- an error that an except suite holds -/
  | exc (c : Str) (ns : List Str) (vs : List D)
/-- what a run gives: a value, an own exception with its arguments, or nothing that is known -/
inductive Res (α : Type) where
  | ok (a : α) | ex (c : Str) (fs : List (Str × D)) | er
namespace Res
def bind {α β : Type} (r : Res α) (f : α → Res β) : Res β := match r with
  | .ok a => f a
  | .ex c fs => .ex c fs
  | .er => .er
@[simp] theorem bind_ok {α β : Type} (a : α) (f : α → Res β) : (Res.ok a).bind f = f a := rfl
@[simp] theorem bind_ex {α β : Type} (c : Str) (as : List (Str × D)) (f : α → Res β) : (Res.ex c as : Res α).bind f = .ex c as := rfl
@[simp] theorem bind_er {α β : Type} (f : α → Res β) : (Res.er : Res α).bind f = .er := rfl
end Res
/-- the value v stands for the data d, read in the view S -/
inductive Rep (K : PySem.W.Frag) (mg : Str → Option Value) (S : Hp) : V → D → Prop where
  | non : Rep K mg S .non .non
  | bl (b : Bool) : Rep K mg S (.bl b) (.bl b)
  | int (i : Int) : Rep K mg S (.int i) (.int i)
  | str (x : Str) : Rep K mg S (.str x) (.str x)
  | lst {a : Addr} {vs : List V} {ds : List D} (h : S a = some (.lst vs)) (hl : vs.length = ds.length) (hi : ∀ (i : Nat) (v : V) (d : D), vs[i]? = some v → ds[i]? = some d → Rep K mg S v d) : Rep K mg S (.ref a) (.lst ds)
  | tup {a : Addr} {vs : List V} {ds : List D} (h : S a = some (.tup vs)) (hl : vs.length = ds.length) (hi : ∀ (i : Nat) (v : V) (d : D), vs[i]? = some v → ds[i]? = some d → Rep K mg S v d) : Rep K mg S (.ref a) (.tup ds)
  | frl {a : Addr} {vs : List V} {ds : List D} (h : SqL K S a vs) (hl : vs.length = ds.length) (hi : ∀ (i : Nat) (v : V) (d : D), vs[i]? = some v → ds[i]? = some d → Rep K mg S v d) : Rep K mg S (.ref a) (.frl ds)
  | dic {a : Addr} {kvs : List (Key × V)} {ds : List D} (h : Rd S a (.dK kvs)) (hl : kvs.length = ds.length) (hi : ∀ (i : Nat) (p : Key × V) (d : D), kvs[i]? = some p → ds[i]? = some d → Rep K mg S p.2 d) : Rep K mg S (.ref a) (.dic (kvs.map (·.1)) ds)
  | dit {a : Addr} {kvs : List (List Key × V)} {ds : List D} (h : S a = some (.dT kvs)) (hl : kvs.length = ds.length) (hi : ∀ (i : Nat) (p : List Key × V) (d : D), kvs[i]? = some p → ds[i]? = some d → Rep K mg S p.2 d) : Rep K mg S (.ref a) (.dit (kvs.map (·.1)) ds)
  | obj {a C dx : Addr} {c : Str} {fs : List (Str × V)} {ds : List D} (h : S a = some (.ins C dx fs)) (hm : mg c = some (.ref C)) (hl : fs.length = ds.length) (hi : ∀ (i : Nat) (p : Str × V) (d : D), fs[i]? = some p → ds[i]? = some d → Rep K mg S p.2 d) : Rep K mg S (.ref a) (.obj c (fs.map (·.1)) ds)
  | exc {a : Addr} {c : Str} {ns : List Str} {ds : List D} : Rep K mg S (.ref a) (.exc c ns ds)
section
variable {K : PySem.W.Frag} {mg : Str → Option Value} {S S' H H' : Hp}
theorem same_rd {a : Addr} {u : HO} (e : Same S S') (h : Rd S a u) : Rd S' a u := by
  rcases h with h | ⟨o, h⟩
  · exact .inl (e _ _ h)
  · exact .inr ⟨o, e _ _ h⟩
theorem same_l {a : Addr} {xs : List V} (e : Same S S') (h : SqL K S a xs) : SqL K S' a xs := by
  rcases h with h | h
  · exact .inl (same_rd e h)
  · exact .inr h
theorem same_t {a : Addr} {xs : List V} (e : Same S S') (h : SqT K S a xs) : SqT K S' a xs := by
  rcases h with h | h
  · exact .inl (same_rd e h)
  · exact .inr h
theorem Rep.mono {v : V} {d : D} (e : Same S S') (h : Rep K mg S v d) : Rep K mg S' v d := by
  induction h with
  | non => exact .non
  | bl b => exact .bl b
  | int i => exact .int i
  | str x => exact .str x
  | lst h hl _ ih => exact .lst (e _ _ h) hl ih
  | frl h hl _ ih => exact .frl (same_l e h) hl ih
  | tup h hl _ ih => exact .tup (e _ _ h) hl ih
  | dic h hl _ ih => exact .dic (same_rd e h) hl ih
  | dit h hl _ ih => exact .dit (e _ _ h) hl ih
  | obj h hm hl _ ih => exact .obj (e _ _ h) hm hl ih
  | exc => exact .exc
/-- item by item -/
structure RepL (K : PySem.W.Frag) (mg : Str → Option Value) (S : Hp) (vs : List V) (ds : List D) : Prop where
  len : vs.length = ds.length
  at_ : ∀ (i : Nat) (v : V) (d : D), vs[i]? = some v → ds[i]? = some d → Rep K mg S v d
theorem RepL.mono {vs : List V} {ds : List D} (e : Same S S') (h : RepL K mg S vs ds) : RepL K mg S' vs ds := ⟨h.len, fun i v d a b => (h.at_ i v d a b).mono e⟩
theorem RepL.nil : RepL K mg S [] [] := ⟨rfl, fun i v d a _ => by simp at a⟩
theorem RepL.cons {v : V} {d : D} {vs : List V} {ds : List D} (h : Rep K mg S v d) (t : RepL K mg S vs ds) : RepL K mg S (v :: vs) (d :: ds) := by
  refine ⟨by rw [List.length_cons, List.length_cons, t.len], fun i w e a b => ?_⟩
  cases i with
  | zero =>
    rw [List.getElem?_cons_zero] at a b
    cases a; cases b
    exact h
  | succ i =>
    rw [List.getElem?_cons_succ] at a b
    exact t.at_ i w e a b
theorem RepL.head {v : V} {d : D} {vs : List V} {ds : List D} (t : RepL K mg S (v :: vs) (d :: ds)) : Rep K mg S v d := t.at_ 0 v d rfl rfl
theorem RepL.tail {v : V} {d : D} {vs : List V} {ds : List D} (t : RepL K mg S (v :: vs) (d :: ds)) : RepL K mg S vs ds :=
  ⟨by have := t.len; simpa using this, fun i w e a b => t.at_ (i + 1) w e (by simpa using a) (by simpa using b)⟩
theorem RepL.get {vs : List V} {ds : List D} {i : Nat} {d : D} (t : RepL K mg S vs ds) (h : ds[i]? = some d) : ∃ v, vs[i]? = some v ∧ Rep K mg S v d := by
  have hi := (List.getElem?_eq_some_iff.mp h).1
  have hv : i < vs.length := by rw [t.len]; exact hi
  exact ⟨vs[i], List.getElem?_eq_getElem hv, t.at_ i _ d (List.getElem?_eq_getElem hv) h⟩
theorem RepL.append {vs ws : List V} {ds es : List D} (t : RepL K mg S vs ds) (u : RepL K mg S ws es) : RepL K mg S (vs ++ ws) (ds ++ es) := by
  refine ⟨by rw [List.length_append, List.length_append, t.len, u.len], fun i w e a b => ?_⟩
  by_cases h : i < vs.length
  · rw [List.getElem?_append_left h] at a
    rw [List.getElem?_append_left (by rw [← t.len]; exact h)] at b
    exact t.at_ i w e a b
  · rw [List.getElem?_append_right (by omega)] at a
    rw [List.getElem?_append_right (by rw [← t.len]; omega), ← t.len] at b
    exact u.at_ _ w e a b
theorem RepL.snoc {vs : List V} {ds : List D} {v : V} {d : D} (t : RepL K mg S vs ds) (h : Rep K mg S v d) : RepL K mg S (vs ++ [v]) (ds ++ [d]) := t.append (.cons h .nil)
theorem RepL.set {vs : List V} {ds : List D} {v : V} {d : D} (t : RepL K mg S vs ds) (j : Nat) (h : Rep K mg S v d) : RepL K mg S (vs.set j v) (ds.set j d) := by
  refine ⟨by rw [List.length_set, List.length_set, t.len], fun i w e a b => ?_⟩
  rw [List.getElem?_set] at a b
  by_cases hj : j = i
  · subst hj
    rw [if_pos rfl] at a b
    split at a
    · rename_i h1
      rw [if_pos (by rw [← t.len]; exact h1)] at b
      cases a; cases b
      exact h
    · cases a
  · rw [if_neg hj] at a b
    exact t.at_ i w e a b
theorem RepL.take {vs : List V} {ds : List D} (n : Nat) (t : RepL K mg S vs ds) : RepL K mg S (vs.take n) (ds.take n) := by
  refine ⟨by rw [List.length_take, List.length_take, t.len], fun i w e a b => ?_⟩
  rw [List.getElem?_take] at a b
  split at a
  · rename_i h
    rw [if_pos h] at b
    exact t.at_ i w e a b
  · cases a
theorem RepL.drop {vs : List V} {ds : List D} (n : Nat) (t : RepL K mg S vs ds) : RepL K mg S (vs.drop n) (ds.drop n) := by
  refine ⟨by rw [List.length_drop, List.length_drop, t.len], fun i w e a b => ?_⟩
  rw [List.getElem?_drop] at a b
  exact t.at_ _ w e a b
theorem RepL.eraseIdx {vs : List V} {ds : List D} (n : Nat) (t : RepL K mg S vs ds) : RepL K mg S (vs.eraseIdx n) (ds.eraseIdx n) := by
  rw [List.eraseIdx_eq_take_drop_succ, List.eraseIdx_eq_take_drop_succ]
  exact (t.take n).append (t.drop (n + 1))
theorem RepL.dropLast {vs : List V} {ds : List D} (t : RepL K mg S vs ds) : RepL K mg S vs.dropLast ds.dropLast := by
  rw [List.dropLast_eq_take, List.dropLast_eq_take, t.len]
  exact t.take _
theorem Rep.lstL {a : Addr} {vs : List V} {ds : List D} (h : S a = some (.lst vs)) (t : RepL K mg S vs ds) : Rep K mg S (.ref a) (.lst ds) := .lst h t.len t.at_
theorem Rep.tupL {a : Addr} {vs : List V} {ds : List D} (h : S a = some (.tup vs)) (t : RepL K mg S vs ds) : Rep K mg S (.ref a) (.tup ds) := .tup h t.len t.at_
theorem Rep.of_lst {v : V} {ds : List D} (h : Rep K mg S v (.lst ds)) : ∃ a vs, v = .ref a ∧ S a = some (.lst vs) ∧ RepL K mg S vs ds := by
  cases h with
  | lst h hl hi => exact ⟨_, _, rfl, h, hl, hi⟩
theorem Rep.of_frl {v : V} {ds : List D} (h : Rep K mg S v (.frl ds)) : ∃ a vs, v = .ref a ∧ SqL K S a vs ∧ RepL K mg S vs ds := by
  cases h with
  | frl h hl hi => exact ⟨_, _, rfl, h, hl, hi⟩
theorem Rep.of_tupS {v : V} {ds : List D} (h : Rep K mg S v (.tup ds)) : ∃ a vs, v = .ref a ∧ S a = some (.tup vs) ∧ RepL K mg S vs ds := by
  cases h with
  | tup h hl hi => exact ⟨_, _, rfl, h, hl, hi⟩
theorem Rep.of_tup {v : V} {ds : List D} (h : Rep K mg S v (.tup ds)) : ∃ a vs, v = .ref a ∧ SqT K S a vs ∧ RepL K mg S vs ds := by
  obtain ⟨a, vs, e, h, r⟩ := h.of_tupS
  exact ⟨a, vs, e, .inl (.inl h), r⟩
theorem Rep.of_int {v : V} {i : Int} (h : Rep K mg S v (.int i)) : v = .int i := by cases h; rfl
theorem Rep.of_bl {v : V} {i : Bool} (h : Rep K mg S v (.bl i)) : v = .bl i := by cases h; rfl
/-- whole numbers -/
theorem RepL.ints : ∀ {vs : List V} {ns : List Int}, RepL K mg S vs (ns.map D.int) → vs = ns.map V.int
  | [], [], _ => rfl
  | [], _ :: _, h => by have := h.len; simp at this
  | _ :: _, [], h => by have := h.len; simp at this
  | v :: vs, n :: ns, h => by
    have e1 := h.head.of_int
    have e2 := RepL.ints (ns := ns) h.tail
    rw [e1, e2]
    rfl
theorem RepL.bls : ∀ {vs : List V} {ns : List Bool}, RepL K mg S vs (ns.map D.bl) → vs = ns.map V.bl
  | [], [], _ => rfl
  | [], _ :: _, h => by have := h.len; simp at this
  | _ :: _, [], h => by have := h.len; simp at this
  | v :: vs, n :: ns, h => by
    have e1 := h.head.of_bl
    have e2 := RepL.bls (ns := ns) h.tail
    rw [e1, e2]
    rfl
theorem RepL.of_ints : ∀ (ns : List Int), RepL K mg S (ns.map V.int) (ns.map D.int)
  | [] => .nil
  | n :: ns => .cons (.int n) (RepL.of_ints ns)
/-- from the view S of H to the view S' of H': all that stood stands; what the view has more is new -/
structure Step (S H S' H' : Hp) : Prop where
  hh : Same H H'
  ss : Same S S'
  sub : Same S' H'
  new : ∀ a, S' a ≠ none → S a ≠ none ∨ H a = none
theorem Step.refl (h : Same S H) : Step S H S H := ⟨Same.refl _, Same.refl _, h, fun _ x => .inl x⟩
theorem Step.trans {S1 H1 S2 H2 : Hp} (a : Step S H S1 H1) (b : Step S1 H1 S2 H2) : Step S H S2 H2 :=
  ⟨a.hh.trans b.hh, a.ss.trans b.ss, b.sub, fun x h => by
    rcases b.new x h with h | h
    · exact a.new x h
    · exact .inr (a.hh.free h)⟩
theorem Same.upd_new {H : Hp} {p : Addr} {o : HO} (h : H p = none) : Same H (upd H p o) := fun b x e => by
  rw [upd_ne (ne_of_none e h)]
  exact e
/-- a new object that the view takes in -/
theorem Step.laid {p : Addr} {o : HO} (h : Same S H) (hp : H p = none) : Step S H (upd S p o) (upd H p o) := by
  have sp : S p = none := h.free hp
  refine ⟨Same.upd_new hp, Same.upd_new sp, fun b x e => ?_, fun a x => ?_⟩
  · by_cases hb : b = p
    · subst hb
      rw [upd_same] at e ⊢
      exact e
    · rw [upd_ne hb] at e ⊢
      exact h b x e
  · by_cases ha : a = p
    · subst ha
      exact .inr hp
    · rw [upd_ne ha] at x
      exact .inl x
/-- a new object that the view does not take in -/
theorem Step.hid {p : Addr} {o : HO} (h : Same S H) (hp : H p = none) : Step S H S (upd H p o) :=
  ⟨Same.upd_new hp, Same.refl _, h.trans (Same.upd_new hp), fun _ x => .inl x⟩
theorem Step.out {S H S' H' : Hp} (a : Step S H S' H') {p : Addr} {o : HO} (h : S p = none) (hp : H p = some o) : S' p = none := by
  cases e : S' p with
  | none => rfl
  | some u =>
    rcases a.new p (by rw [e]; exact fun z => nomatch z) with z | z
    · exact absurd h z
    · rw [hp] at z; cases z
end
/-- shared data; a list that is the slot's own; an own list of own lists; an own dict (keys ints and texts; tuples) -/
inductive Md where
  | sh | ow | ow2 | dk | dt | ob (p : Addr) | ex (a : Addr) (cls : Value) (dd : Option Addr)
  /-- an own list that stands at q; an own tree of lists, n deep, one of whose lists is lent, that stands at a known place -/
  | owq (q : Addr) | tr (n : Nat) (h : Option (Nat × Addr)) (at_ : Option Addr)
  deriving DecidableEq
/-- what stands in the place of a list that is lent -/
def junk : D := .exc "" [] []
/-- a tree of lists of one's own, n deep -/
def OwnTr (K : PySem.W.Frag) (mg : Str → Option Value) (S H : Hp) : Nat → List Addr → V → D → Prop
  | 0, fp, v, d => Rep K mg S v d ∧ fp = []
  | n + 1, fp, v, d => ∃ (p : Addr) (vs : List V) (ds : List D) (fps : List (List Addr)), v = .ref p ∧ d = .lst ds ∧ fp = p :: fps.flatten ∧ S p = none ∧ H p = some (.lst vs) ∧ vs.length = ds.length ∧ fps.length = ds.length ∧
      ∀ (j : Nat) (w : V) (e : D) (f : List Addr), vs[j]? = some w → ds[j]? = some e → fps[j]? = some f → OwnTr K mg S H n f w e
/-- .. whose list number k, at q, is lent -/
def OwnTh (K : PySem.W.Frag) (mg : Str → Option Value) (S H : Hp) (n k : Nat) (q : Addr) (fp : List Addr) (v : V) (d : D) : Prop :=
  ∃ (p : Addr) (vs : List V) (ds : List D) (fps : List (List Addr)), v = .ref p ∧ d = .lst ds ∧ fp = p :: fps.flatten ∧ S p = none ∧ H p = some (.lst vs) ∧ vs.length = ds.length ∧ fps.length = ds.length ∧
      vs[k]? = some (.ref q) ∧ ds[k]? = some junk ∧ fps[k]? = some [] ∧
      ∀ (j : Nat) (w : V) (e : D) (f : List Addr), j ≠ k → vs[j]? = some w → ds[j]? = some e → fps[j]? = some f → OwnTr K mg S H n f w e
/-- what v is under the mode, in the view S of H, standing at the addresses fp -/
def OwnAt (K : PySem.W.Frag) (mg : Str → Option Value) (S H : Hp) (fp : List Addr) (v : V) (d : D) : Md → Prop
  | .sh => Rep K mg S v d ∧ fp = []
  | .ow => ∃ p vs ds, v = .ref p ∧ d = .lst ds ∧ fp = [p] ∧ S p = none ∧ H p = some (.lst vs) ∧ RepL K mg S vs ds
  | .ow2 => ∃ (p : Addr) (ps : List Addr) (dss : List (List D)), v = .ref p ∧ d = .lst (dss.map D.lst) ∧ fp = p :: ps ∧ S p = none ∧ H p = some (.lst (ps.map V.ref)) ∧ ps.length = dss.length ∧
      ∀ (j : Nat) (q : Addr) (ds : List D), ps[j]? = some q → dss[j]? = some ds → S q = none ∧ ∃ vs, H q = some (.lst vs) ∧ RepL K mg S vs ds
  | .dk => ∃ (p : Addr) (kvs : List (Key × V)) (ds : List D), v = .ref p ∧ d = .dic (kvs.map (·.1)) ds ∧ fp = [p] ∧ S p = none ∧ H p = some (.dK kvs) ∧ RepL K mg S (kvs.map (·.2)) ds
  | .dt => ∃ (p : Addr) (kvs : List (List Key × V)) (ds : List D), v = .ref p ∧ d = .dit (kvs.map (·.1)) ds ∧ fp = [p] ∧ S p = none ∧ H p = some (.dT kvs) ∧ RepL K mg S (kvs.map (·.2)) ds
  | .ob p => ∃ (dx C : Addr) (c : Str) (fs : List (Str × V)) (ds : List D), v = .ref p ∧ d = .obj c (fs.map (·.1)) ds ∧ fp = [p, dx] ∧ S p = none ∧ S dx = none ∧ mg c = some (.ref C) ∧ H p = some (.ins C dx fs) ∧ H dx = some (.own p) ∧ RepL K mg S (fs.map (·.2)) ds
  | .owq q => v = .ref q ∧ ∃ p vs ds, v = .ref p ∧ d = .lst ds ∧ fp = [p] ∧ S p = none ∧ H p = some (.lst vs) ∧ RepL K mg S vs ds
  | .tr n none a => (∀ q, a = some q → v = .ref q) ∧ OwnTr K mg S H n fp v d
  | .tr n (some (k, q)) a => (∀ q, a = some q → v = .ref q) ∧ OwnTh K mg S H (n - 1) k q fp v d
  | .ex a cls dd => ∃ (c : Str) (vfs : List (Str × V)) (ds : List D), v = .ref a ∧ d = .exc c (vfs.map (·.1)) ds ∧ fp = [] ∧ mg c = some cls ∧ ((vfs = [] ∧ dd = none) ∨ ∃ dx, dd = some dx ∧ S dx = some (.xd vfs)) ∧ RepL K mg S (vfs.map (·.2)) ds
section
variable {K : PySem.W.Frag} {mg : Str → Option Value} {S S' H H' : Hp} {fp : List Addr} {v : V} {d : D} {md : Md}
theorem mem_flat {fps : List (List Addr)} {a : Addr} (h : a ∈ fps.flatten) : ∃ (j : Nat) (f : List Addr), fps[j]? = some f ∧ a ∈ f := by
  obtain ⟨f, hf, ha⟩ := List.mem_flatten.mp h
  obtain ⟨j, hj⟩ := List.mem_iff_getElem?.mp hf
  exact ⟨j, f, hj, ha⟩
theorem flat_mem {fps : List (List Addr)} {a : Addr} {j : Nat} {f : List Addr} (hj : fps[j]? = some f) (ha : a ∈ f) : a ∈ fps.flatten := List.mem_flatten.mpr ⟨f, List.mem_of_getElem? hj, ha⟩
theorem OwnTr.step (a : Step S H S' H') : ∀ {n : Nat} {fp : List Addr} {v : V} {d : D}, OwnTr K mg S H n fp v d → OwnTr K mg S' H' n fp v d
  | 0, _, _, _, h => ⟨h.1.mono a.ss, h.2⟩
  | n + 1, _, _, _, h => by
    obtain ⟨p, vs, ds, fps, e1, e2, e3, e4, e5, e6, e7, e8⟩ := h
    exact ⟨p, vs, ds, fps, e1, e2, e3, a.out e4 e5, a.hh _ _ e5, e6, e7, fun j w e f x y z => (e8 j w e f x y z).step a⟩
theorem OwnTr.out : ∀ {n : Nat} {fp : List Addr} {v : V} {d : D}, OwnTr K mg S H n fp v d → ∀ {a : Addr}, a ∈ fp → S a = none ∧ ∃ o, H a = some o
  | 0, _, _, _, h, a, ha => by rw [h.2] at ha; cases ha
  | n + 1, _, _, _, h, a, ha => by
    obtain ⟨p, vs, ds, fps, e1, e2, e3, e4, e5, e6, e7, e8⟩ := h
    rw [e3] at ha
    rcases List.mem_cons.mp ha with rfl | ha
    · exact ⟨e4, _, e5⟩
    · obtain ⟨j, f, hj, hf⟩ := mem_flat ha
      have hl := (List.getElem?_eq_some_iff.mp hj).1
      exact (e8 j _ _ f (List.getElem?_eq_getElem (by omega)) (List.getElem?_eq_getElem (by omega)) hj).out hf
theorem OwnTr.other {p : Addr} {o : HO} (hp : S p = none) : ∀ {n : Nat} {fp : List Addr} {v : V} {d : D}, p ∉ fp → OwnTr K mg S H n fp v d → OwnTr K mg S (upd H p o) n fp v d
  | 0, _, _, _, _, h => h
  | n + 1, _, _, _, hf, h => by
    obtain ⟨q, vs, ds, fps, e1, e2, e3, e4, e5, e6, e7, e8⟩ := h
    refine ⟨q, vs, ds, fps, e1, e2, e3, e4, ?_, e6, e7, fun j w e f x y z => (e8 j w e f x y z).other hp fun i => hf ?_⟩
    · rw [upd_ne (fun z => hf (by rw [e3, z]; exact List.mem_cons_self))]
      exact e5
    · rw [e3]; exact List.mem_cons_of_mem _ (flat_mem z i)
theorem OwnTh.step {n k : Nat} {q : Addr} (a : Step S H S' H') (h : OwnTh K mg S H n k q fp v d) : OwnTh K mg S' H' n k q fp v d := by
  obtain ⟨p, vs, ds, fps, e1, e2, e3, e4, e5, e6, e7, h1, h2, h3, e8⟩ := h
  exact ⟨p, vs, ds, fps, e1, e2, e3, a.out e4 e5, a.hh _ _ e5, e6, e7, h1, h2, h3, fun j w e f i x y z => (e8 j w e f i x y z).step a⟩
theorem OwnTh.out {n k : Nat} {q : Addr} (h : OwnTh K mg S H n k q fp v d) {a : Addr} (ha : a ∈ fp) : S a = none ∧ ∃ o, H a = some o := by
  obtain ⟨p, vs, ds, fps, e1, e2, e3, e4, e5, e6, e7, h1, h2, h3, e8⟩ := h
  rw [e3] at ha
  rcases List.mem_cons.mp ha with rfl | ha
  · exact ⟨e4, _, e5⟩
  · obtain ⟨j, f, hj, hf⟩ := mem_flat ha
    have hl := (List.getElem?_eq_some_iff.mp hj).1
    have hjk : j ≠ k := fun z => by subst z; rw [h3] at hj; cases hj; cases hf
    exact (e8 j _ _ f hjk (List.getElem?_eq_getElem (by omega)) (List.getElem?_eq_getElem (by omega)) hj).out hf
theorem OwnTh.other {n k : Nat} {q : Addr} {p : Addr} {o : HO} (hp : S p = none) (hf : p ∉ fp) (h : OwnTh K mg S H n k q fp v d) : OwnTh K mg S (upd H p o) n k q fp v d := by
  obtain ⟨p', vs, ds, fps, e1, e2, e3, e4, e5, e6, e7, h1, h2, h3, e8⟩ := h
  refine ⟨p', vs, ds, fps, e1, e2, e3, e4, ?_, e6, e7, h1, h2, h3, fun j w e f i x y z => (e8 j w e f i x y z).other hp fun i => hf ?_⟩
  · rw [upd_ne (fun z => hf (by rw [e3, z]; exact List.mem_cons_self))]
    exact e5
  · rw [e3]; exact List.mem_cons_of_mem _ (flat_mem z i)
theorem OwnAt.step (a : Step S H S' H') (h : OwnAt K mg S H fp v d md) : OwnAt K mg S' H' fp v d md := by
  cases md with
  | owq q0 =>
    obtain ⟨e0, p, vs, ds, e1, e2, e3, e4, e5, e6⟩ := h
    exact ⟨e0, p, vs, ds, e1, e2, e3, a.out e4 e5, a.hh _ _ e5, e6.mono a.ss⟩
  | tr n b at_ =>
    cases b with
    | none => exact ⟨h.1, h.2.step a⟩
    | some kq => exact ⟨h.1, h.2.step a⟩
  | ex a0 b0 c0 =>
    obtain ⟨c, vfs, ds, e1, e2, e3, e4, e5, e6⟩ := h
    refine ⟨c, vfs, ds, e1, e2, e3, e4, e5.imp id fun ⟨dx, y1, y2⟩ => ⟨dx, y1, a.ss _ _ y2⟩, e6.mono (a.ss)⟩
  | sh => exact ⟨h.1.mono a.ss, h.2⟩
  | ow =>
    obtain ⟨p, vs, ds, e1, e2, e3, e4, e5, e6⟩ := h
    exact ⟨p, vs, ds, e1, e2, e3, a.out e4 e5, a.hh _ _ e5, e6.mono a.ss⟩
  | ow2 =>
    obtain ⟨p, ps, dss, e1, e2, e3, e4, e5, e6, e7⟩ := h
    refine ⟨p, ps, dss, e1, e2, e3, a.out e4 e5, a.hh _ _ e5, e6, fun j q ds x y => ?_⟩
    obtain ⟨z1, vs, z2, z3⟩ := e7 j q ds x y
    exact ⟨a.out z1 z2, vs, a.hh _ _ z2, z3.mono a.ss⟩
  | dk =>
    obtain ⟨p, vs, ds, e1, e2, e3, e4, e5, e6⟩ := h
    exact ⟨p, vs, ds, e1, e2, e3, a.out e4 e5, a.hh _ _ e5, e6.mono a.ss⟩
  | dt =>
    obtain ⟨p, vs, ds, e1, e2, e3, e4, e5, e6⟩ := h
    exact ⟨p, vs, ds, e1, e2, e3, a.out e4 e5, a.hh _ _ e5, e6.mono a.ss⟩
  | ob p =>
    obtain ⟨dx, C, c, fs, ds, e1, e2, e3, e4, e5, e6, e7, e8, e9⟩ := h
    exact ⟨dx, C, c, fs, ds, e1, e2, e3, a.out e4 e7, a.out e5 e8, e6, a.hh _ _ e7, a.hh _ _ e8, e9.mono a.ss⟩
/-- its addresses are tracked, and out of the view -/
theorem OwnAt.out (h : OwnAt K mg S H fp v d md) {a : Addr} (ha : a ∈ fp) : S a = none ∧ ∃ o, H a = some o := by
  cases md with
  | owq q0 =>
    obtain ⟨e0, p, vs, ds, e1, e2, e3, e4, e5, e6⟩ := h
    rw [e3] at ha
    have : a = p := by simpa using ha
    subst this
    exact ⟨e4, _, e5⟩
  | tr n b at_ =>
    cases b with
    | none => exact h.2.out ha
    | some kq => exact h.2.out ha
  | ex a0 b0 c0 =>
    obtain ⟨c, vfs, ds, e1, e2, e3, e4, e5, e6⟩ := h
    rw [e3] at ha; cases ha
  | sh => rw [h.2] at ha; cases ha
  | ow =>
    obtain ⟨p, vs, ds, e1, e2, e3, e4, e5, e6⟩ := h
    rw [e3] at ha
    have : a = p := by simpa using ha
    subst this
    exact ⟨e4, _, e5⟩
  | ow2 =>
    obtain ⟨p, ps, dss, e1, e2, e3, e4, e5, e6, e7⟩ := h
    rw [e3] at ha
    rcases List.mem_cons.mp ha with z | z
    · subst z; exact ⟨e4, _, e5⟩
    · obtain ⟨j, hj⟩ := List.mem_iff_getElem?.mp z
      have hl : j < dss.length := by rw [← e6]; exact (List.getElem?_eq_some_iff.mp hj).1
      obtain ⟨z1, vs, z2, _⟩ := e7 j a _ hj (List.getElem?_eq_getElem hl)
      exact ⟨z1, _, z2⟩
  | dk =>
    obtain ⟨p, vs, ds, e1, e2, e3, e4, e5, e6⟩ := h
    rw [e3] at ha
    have : a = p := by simpa using ha
    subst this
    exact ⟨e4, _, e5⟩
  | dt =>
    obtain ⟨p, vs, ds, e1, e2, e3, e4, e5, e6⟩ := h
    rw [e3] at ha
    have : a = p := by simpa using ha
    subst this
    exact ⟨e4, _, e5⟩
  | ob p =>
    obtain ⟨dx, C, c, fs, ds, e1, e2, e3, e4, e5, e6, e7, e8, e9⟩ := h
    rw [e3] at ha
    have : a = p ∨ a = dx := by simpa using ha
    rcases this with rfl | rfl
    · exact ⟨e4, _, e7⟩
    · exact ⟨e5, _, e8⟩
/-- another object is written -/
theorem OwnAt.other {p : Addr} {o : HO} (hp : S p = none) (hf : p ∉ fp) (h : OwnAt K mg S H fp v d md) : OwnAt K mg S (upd H p o) fp v d md := by
  cases md with
  | owq q0 =>
    obtain ⟨e0, q, vs, ds, e1, e2, e3, e4, e5, e6⟩ := h
    refine ⟨e0, q, vs, ds, e1, e2, e3, e4, ?_, e6⟩
    rw [upd_ne (fun z => hf (by rw [e3, z]; exact List.mem_cons_self))]
    exact e5
  | tr n b at_ =>
    cases b with
    | none => exact ⟨h.1, h.2.other hp hf⟩
    | some kq => exact ⟨h.1, h.2.other hp hf⟩
  | ex a0 b0 c0 => exact h
  | sh => exact h
  | ow =>
    obtain ⟨q, vs, ds, e1, e2, e3, e4, e5, e6⟩ := h
    refine ⟨q, vs, ds, e1, e2, e3, e4, ?_, e6⟩
    rw [upd_ne (fun z => hf (by rw [e3, z]; exact List.mem_cons_self))]
    exact e5
  | ow2 =>
    obtain ⟨q, ps, dss, e1, e2, e3, e4, e5, e6, e7⟩ := h
    refine ⟨q, ps, dss, e1, e2, e3, e4, ?_, e6, fun j r ds x y => ?_⟩
    · rw [upd_ne (fun z => hf (by rw [e3, z]; exact List.mem_cons_self))]
      exact e5
    · obtain ⟨z1, vs, z2, z3⟩ := e7 j r ds x y
      refine ⟨z1, vs, ?_, z3⟩
      rw [upd_ne (fun z => hf (by rw [e3, ← z]; exact List.mem_cons_of_mem _ (List.mem_of_getElem? x)))]
      exact z2
  | dk =>
    obtain ⟨q, vs, ds, e1, e2, e3, e4, e5, e6⟩ := h
    refine ⟨q, vs, ds, e1, e2, e3, e4, ?_, e6⟩
    rw [upd_ne (fun z => hf (by rw [e3, z]; exact List.mem_cons_self))]
    exact e5
  | dt =>
    obtain ⟨q, vs, ds, e1, e2, e3, e4, e5, e6⟩ := h
    refine ⟨q, vs, ds, e1, e2, e3, e4, ?_, e6⟩
    rw [upd_ne (fun z => hf (by rw [e3, z]; exact List.mem_cons_self))]
    exact e5
  | ob q =>
    obtain ⟨dx, C, c, fs, ds, e1, e2, e3, e4, e5, e6, e7, e8, e9⟩ := h
    refine ⟨dx, C, c, fs, ds, e1, e2, e3, e4, e5, e6, ?_, ?_, e9⟩
    · rw [upd_ne (fun z => hf (by rw [e3, z]; exact List.mem_cons_self))]
      exact e7
    · rw [upd_ne (fun z => hf (by rw [e3, z]; exact List.mem_cons_of_mem _ List.mem_cons_self))]
      exact e8
end
/-- the data of the slots; none: nothing is known of the slot -/
abbrev Env := List (Option D)
abbrev Mds := List Md
def mdAt (m : Mds) (i : Nat) : Md := m.getD i .sh
/-- the slots σ hold the data ρ, each by its mode, standing at F -/
structure EnvF (K : PySem.W.Frag) (mg : Str → Option Value) (m : Mds) (F : Nat → List Addr) (S H : Hp) (σ : St) (ρ : Env) : Prop where
  len : ρ.length = σ.length
  at_ : ∀ i d, ρ[i]? = some (some d) → ∃ v, σ[i]? = some (some v) ∧ OwnAt K mg S H (F i) v d (mdAt m i)
  nd : ∀ i d, ρ[i]? = some (some d) → (F i).Nodup
  apart : ∀ i j d e, i ≠ j → ρ[i]? = some (some d) → ρ[j]? = some (some e) → ∀ a, a ∈ F i → a ∉ F j
def EnvM (K : PySem.W.Frag) (mg : Str → Option Value) (m : Mds) (S H : Hp) (σ : St) (ρ : Env) : Prop := Same S H ∧ ∃ F, EnvF K mg m F S H σ ρ
section
variable {K : PySem.W.Frag} {mg : Str → Option Value} {m : Mds} {F : Nat → List Addr} {S S' H H' : Hp} {σ : St} {ρ : Env}
theorem EnvF.step (a : Step S H S' H') (h : EnvF K mg m F S H σ ρ) : EnvF K mg m F S' H' σ ρ :=
  ⟨h.len, fun i d e => by
    obtain ⟨v, e1, e2⟩ := h.at_ i d e
    exact ⟨v, e1, e2.step a⟩, h.nd, h.apart⟩
theorem EnvM.step (a : Step S H S' H') (h : EnvM K mg m S H σ ρ) : EnvM K mg m S' H' σ ρ := by
  obtain ⟨_, F, h⟩ := h
  exact ⟨a.sub, F, h.step a⟩
end
end Da
namespace Da
open PySem PySem.Spec L2
section
variable {K : PySem.W.Frag} {mg : Str → Option Value} {E : XK} {S S' H H' : Hp}
/-- an own exception: its class, its own dict -/
def ExcAt (K : PySem.W.Frag) (mg : Str → Option Value) (S H : Hp) (cls : Value) (dd : Option Addr) (c : Str) (fs : List (Str × D)) : Prop :=
  mg c = some cls ∧ ((fs = [] ∧ dd = none) ∨ ∃ a vfs, dd = some a ∧ S a = some (.xd vfs) ∧ vfs.map (·.1) = fs.map (·.1) ∧ RepL K mg S (vfs.map (·.2)) (fs.map (·.2)))
/-- what is wanted of a run's end -/
def PostW {α : Type} (K : PySem.W.Frag) (mg : Str → Option Value) (E : XK) (S H : Hp) (r : Res α) (k : α → Hp → Hp → Prop) : Prop := match r with
  | .ok a => ∀ S' H', Step S H S' H' → k a S' H'
  | .ex c fs => ∀ S' H' cls dd, Step S H S' H' → ExcAt K mg S' H' cls dd c fs → E cls dd H'
  | .er => False
/-- .. of a value's -/
def Post (K : PySem.W.Frag) (mg : Str → Option Value) (E : XK) (S H : Hp) (md : Md) (r : Res D) (Q : VK) : Prop := match r with
  | .ok d => ∀ v S' H' fp, Step S H S' H' → OwnAt K mg S' H' fp v d md → fp.Nodup → (∀ a ∈ fp, H a = none) → Q v H'
  | .ex c fs => ∀ S' H' cls dd, Step S H S' H' → ExcAt K mg S' H' cls dd c fs → E cls dd H'
  | .er => False
theorem PostW.step {α : Type} {r : Res α} {k : α → Hp → Hp → Prop} (st : Step S H S' H') (h : PostW K mg E S H r k) : PostW K mg E S' H' r k := by
  cases r with
  | ok a => exact fun S2 H2 s2 => h S2 H2 (st.trans s2)
  | ex c fs => exact fun S2 H2 cls dd s2 => h S2 H2 cls dd (st.trans s2)
  | er => exact h
theorem Post.step {md : Md} {r : Res D} {Q : VK} (st : Step S H S' H') (h : Post K mg E S H md r Q) : Post K mg E S' H' md r Q := by
  cases r with
  | ok a => exact fun v S2 H2 fp s2 o n f => h v S2 H2 fp (st.trans s2) o n fun a ha => st.hh.free (f a ha)
  | ex c fs => exact fun S2 H2 cls dd s2 => h S2 H2 cls dd (st.trans s2)
  | er => exact h
theorem Post.bind {α : Type} {md : Md} {r : Res α} {f : α → Res D} {Q : VK} (h : Post K mg E S H md (r.bind f) Q) : PostW K mg E S H r fun a S1 H1 => Post K mg E S1 H1 md (f a) Q := by
  cases r with
  | ok a => exact fun S2 H2 s2 => Post.step s2 h
  | ex c fs => exact h
  | er => exact h
theorem PostW.bind {α β : Type} {r : Res α} {f : α → Res β} {k : β → Hp → Hp → Prop} (h : PostW K mg E S H (r.bind f) k) : PostW K mg E S H r fun a S1 H1 => PostW K mg E S1 H1 (f a) k := by
  cases r with
  | ok a => exact fun S2 H2 s2 => PostW.step s2 h
  | ex c fs => exact h
  | er => exact h
theorem PostW.imp {α : Type} {r : Res α} {k k' : α → Hp → Hp → Prop} (h : PostW K mg E S H r k) (g : ∀ a S' H', Step S H S' H' → k a S' H' → k' a S' H') : PostW K mg E S H r k' := by
  cases r with
  | ok a => exact fun S2 H2 s2 => g a S2 H2 s2 (h S2 H2 s2)
  | ex c fs => exact h
  | er => exact h
/-- a shared value is handed on -/
theorem PostW.post {r : Res D} {k : D → Hp → Hp → Prop} {Q : VK} (h : PostW K mg E S H r k) (g : ∀ d v S' H', Step S H S' H' → Rep K mg S' v d → k d S' H' → Q v H') : Post K mg E S H .sh r Q := by
  cases r with
  | ok a => exact fun v S2 H2 fp s2 o n f => g a v S2 H2 s2 o.1 (h S2 H2 s2)
  | ex c fs => exact h
  | er => exact h
theorem PostW.postM {md : Md} {r : Res D} {k : D → Hp → Hp → Prop} {Q : VK} (h : PostW K mg E S H r k) (g : ∀ d v S' H' fp, Step S H S' H' → OwnAt K mg S' H' fp v d md → fp.Nodup → (∀ a ∈ fp, H a = none) → k d S' H' → Q v H') : Post K mg E S H md r Q := by
  cases r with
  | ok a => exact fun v S2 H2 fp s2 o n f => g a v S2 H2 fp s2 o n f (h S2 H2 s2)
  | ex c fs => exact h
  | er => exact h
/-- a shared value that stands already -/
theorem Post.val {d : D} {v : V} {Q : VK} (h : Post K mg E S H .sh (.ok d) Q) (hs : Same S H) (r : Rep K mg S v d) : Q v H := h v S H [] (Step.refl hs) ⟨r, rfl⟩ List.nodup_nil (fun a z => nomatch z)
/-- a new list, a new tuple -/
theorem Post.lst {ds : List D} {vs : List V} {p : Addr} {Q : VK} (h : Post K mg E S H .sh (.ok (.lst ds)) Q) (hs : Same S H) (r : RepL K mg S vs ds) (hp : H p = none) : Q (.ref p) (upd H p (.lst vs)) :=
  h _ _ _ [] (Step.laid hs hp) ⟨Rep.lstL upd_same (r.mono (Step.laid hs hp).ss), rfl⟩ List.nodup_nil (fun a z => nomatch z)
theorem Post.tup {ds : List D} {vs : List V} {p : Addr} {Q : VK} (h : Post K mg E S H .sh (.ok (.tup ds)) Q) (hs : Same S H) (r : RepL K mg S vs ds) (hp : H p = none) : Q (.ref p) (upd H p (.tup vs)) :=
  h _ _ _ [] (Step.laid hs hp) ⟨Rep.tupL upd_same (r.mono (Step.laid hs hp).ss), rfl⟩ List.nodup_nil (fun a z => nomatch z)
/-- a new list that is one's own -/
theorem Post.own {ds : List D} {vs : List V} {p : Addr} {Q : VK} (h : Post K mg E S H .ow (.ok (.lst ds)) Q) (hs : Same S H) (r : RepL K mg S vs ds) (hp : H p = none) : Q (.ref p) (upd H p (.lst vs)) :=
  h _ S _ [p] (Step.hid hs hp) ⟨p, vs, ds, rfl, rfl, rfl, hs.free hp, upd_same, r⟩ (by simp) (fun a z => by
    have : a = p := by simpa using z
    rw [this]; exact hp)
/-- a list, kept or shared -/
theorem Post.list {md : Md} (hmd : md = .sh ∨ md = .ow) {ds : List D} {vs : List V} {p : Addr} {Q : VK} (h : Post K mg E S H md (.ok (.lst ds)) Q) (hs : Same S H) (r : RepL K mg S vs ds) (hp : H p = none) : Q (.ref p) (upd H p (.lst vs)) := by
  rcases hmd with rfl | rfl
  · exact h.lst hs r hp
  · exact h.own hs r hp
end
def tE (K : PySem.W.Frag) (mg : Str → Option Value) (E : WX) (m : Mds) (md : Md) (f : Env → Res D) : TE := fun σ H Q => ∃ S ρ, EnvM K mg m S H σ ρ ∧ Post K mg (WE E σ) S H md (f ρ) Q
def tT (K : PySem.W.Frag) (mg : Str → Option Value) (E : WX) (m : Mds) (f : Env → Res Bool) : TT := fun σ H Q => ∃ S ρ, EnvM K mg m S H σ ρ ∧ PostW K mg (WE E σ) S H (f ρ) fun b _ H' => Q b H'
def tA (K : PySem.W.Frag) (mg : Str → Option Value) (E : WX) (m : Mds) (f : Env → Res (List D)) : TA := fun σ H Q => ∃ S ρ, EnvM K mg m S H σ ρ ∧ PostW K mg (WE E σ) S H (f ρ) fun ds S' H' => ∀ vs, RepL K mg S' vs ds → Q vs H'
structure JE (X : Cx) (E : WX) (m : Mds) (md : Md) (e : Expr) (f : Env → Res D) : Prop where
  pe : PE X e (tE X.K X.mg E m md f)
structure JT (X : Cx) (E : WX) (m : Mds) (e : Expr) (f : Env → Res Bool) : Prop where
  pt : PT X e (tT X.K X.mg E m f)
structure JW (X : Cx) (E : WX) (m : Mds) (e : Expr) (f : Env → Res Bool) : Prop where
  pw : PW X e (tT X.K X.mg E m f)
structure JA (X : Cx) (E : WX) (m : Mds) (es : List Expr) (f : Env → Res (List D)) : Prop where
  pa : PA X es (tA X.K X.mg E m f)
section
variable {X : Cx} {e : Expr} {es : List Expr}
theorem PEimp {t t' : TE} (h : PE X e t) (g : ∀ σ H Q, t' σ H Q → t σ H Q) : PE X e t' := ⟨fun pins s σ H Q I q => h.run pins s σ H Q I (g σ H Q q)⟩
theorem PTimp {t t' : TT} (h : PT X e t) (g : ∀ σ H Q, t' σ H Q → t σ H Q) : PT X e t' := ⟨fun pins s σ H Q I q => h.run pins s σ H Q I (g σ H Q q)⟩
theorem PWimp {t t' : TT} (h : PW X e t) (g : ∀ σ H Q, t' σ H Q → t σ H Q) : PW X e t' := ⟨fun wh pins s σ H Q I q => h.run wh pins s σ H Q I (g σ H Q q)⟩
theorem PAimp {t t' : TA} (h : PA X es t) (g : ∀ σ H Q, t' σ H Q → t σ H Q) : PA X es t' := ⟨fun pos pins s σ H Q I q => h.run pos pins s σ H Q I (g σ H Q q)⟩
end
def fC (d : D) : Env → Res D := fun _ => .ok d
def fV (i : Nat) : Env → Res D := fun ρ => match ρ[i]? with
  | some (some d) => .ok d
  | _ => .er
def f1 (g : D → Res D) (fa : Env → Res D) : Env → Res D := fun ρ => (fa ρ).bind g
def f2 (g : D → D → Res D) (fa fb : Env → Res D) : Env → Res D := fun ρ => (fa ρ).bind fun x => (fb ρ).bind fun y => g x y
def fA0 : Env → Res (List D) := fun _ => .ok []
def fA (fa : Env → Res D) (fr : Env → Res (List D)) : Env → Res (List D) := fun ρ => (fa ρ).bind fun x => (fr ρ).bind fun xs => .ok (x :: xs)
def fOn (g : List D → Res D) (fa : Env → Res (List D)) : Env → Res D := fun ρ => (fa ρ).bind g
def asB : D → Res Bool
  | .bl b => .ok b
  | _ => .er
/-- an operation on values does what g says -/
def OpD (K : PySem.W.Frag) (mg : Str → Option Value) (md : Md) (r : R2) (g : D → D → Res D) : Prop :=
  ∀ (E : XK) (S H : Hp) (x y : V) (dx dy : D) (Q : VK), Same S H → Rep K mg S x dx → Rep K mg S y dy → Post K mg E S H md (g dx dy) Q → r x y H Q
def UnD (K : PySem.W.Frag) (mg : Str → Option Value) (md : Md) (r : V → Hp → VK → Prop) (g : D → Res D) : Prop :=
  ∀ (E : XK) (S H : Hp) (x : V) (dx : D) (Q : VK), Same S H → Rep K mg S x dx → Post K mg E S H md (g dx) Q → r x H Q
def CallD (K : PySem.W.Frag) (mg : Str → Option Value) (md : Md) (r : List V → Hp → VK → Prop) (g : List D → Res D) : Prop :=
  ∀ (E : XK) (S H : Hp) (xs : List V) (ds : List D) (Q : VK), Same S H → RepL K mg S xs ds → Post K mg E S H md (g ds) Q → r xs H Q
section
variable {X : Cx} {E : WX} {m : Mds} {md : Md} {a b : Expr} {es : List Expr} {fa fb : Env → Res D} {pos : Pos}
theorem two {t : R2} {g : D → D → Res D} {K : PySem.W.Frag} {mg : Str → Option Value} (hr : OpD K mg md t g) {σ : L2.St} {H : Hp} {Q : VK} (h : tE K mg E m md (f2 g fa fb) σ H Q) : tOp t (tE K mg E m .sh fa) (tE K mg E m .sh fb) σ H Q := by
  obtain ⟨S, ρ, hm, hp⟩ := h
  refine ⟨S, ρ, hm, (Post.bind hp).post fun dx v S1 H1 s1 r1 h1 => ?_⟩
  exact ⟨S1, ρ, hm.step s1, (Post.bind h1).post fun dy w S2 H2 s2 r2 h2 => hr _ S2 H2 v w dx dy Q s2.sub (r1.mono s2.ss) r2 h2⟩
theorem one {t : V → Hp → VK → Prop} {g : D → Res D} {K : PySem.W.Frag} {mg : Str → Option Value} (hr : UnD K mg md t g) {σ : L2.St} {H : Hp} {Q : VK} (h : tE K mg E m md (f1 g fa) σ H Q) : tUn t (tE K mg E m .sh fa) σ H Q := by
  obtain ⟨S, ρ, hm, hp⟩ := h
  exact ⟨S, ρ, hm, (Post.bind hp).post fun dx v S1 H1 s1 r1 h1 => hr _ S1 H1 v dx Q s1.sub r1 h1⟩
theorem je_op {op : Operator} {r : R2} {g : D → D → Res D} (ho : OpR X (binaryOp op) r) (hr : OpD X.K X.mg md r g) (ha : JE X E m .sh a fa) (hb : JE X E m .sh b fb) : JE X E m md (.BinOp a op b pos) (f2 g fa fb) :=
  ⟨PEimp (pe_op ho ha.pe hb.pe) fun σ H Q h => two hr h⟩
theorem je_un {op : UnaryOp} {r : V → Hp → VK → Prop} {g : D → Res D} (ho : UnR X (unaryOp op) r) (hr : UnD X.K X.mg md r g) (ha : JE X E m .sh a fa) : JE X E m md (.UnaryOp op a pos) (f1 g fa) :=
  ⟨PEimp (pe_un ho ha.pe) fun σ H Q h => one hr h⟩
theorem je_cmp {op : CmpOp} {r : R2} {g : D → D → Res D} (ho : OpR X (compareOp op) r) (hr : OpD X.K X.mg .sh r g) (ha : JE X E m .sh a fa) (hb : JE X E m .sh b fb) (hm : behindInMarks op b = false := by rfl) : JE X E m .sh (.Compare a [op] [b] pos) (f2 g fa fb) :=
  ⟨PEimp (pe_cmpR ho ha.pe hb.pe hm) fun σ H Q h => two hr h⟩
theorem je_ix {r : R2} {g : D → D → Res D} (ho : IxR X r) (hr : OpD X.K X.mg .sh r g) (ha : JE X E m .sh a fa) (hb : JE X E m .sh b fb) (hs : PlainIx b := by intro _ _; rfl) : JE X E m .sh (.Subscript a b pos) (f2 g fa fb) :=
  ⟨PEimp (pe_ix ho ha.pe hb.pe hs) fun σ H Q h => two hr h⟩
/-- a value that is a bool, as a test -/
def fB (f : Env → Res D) : Env → Res Bool := fun ρ => (f ρ).bind asB
theorem jt_cmp {op : CmpOp} {r : R2} {g : D → D → Res D} (ho : OpR X (compareOp op) r) (hr : OpD X.K X.mg .sh r g) (ha : JE X E m .sh a fa) (hb : JE X E m .sh b fb) (hm : behindInMarks op b = false := by rfl) : JT X E m (.Compare a [op] [b] pos) (fB (f2 g fa fb)) := by
  refine ⟨PTimp (pt_cmpR ho ha.pe hb.pe hm) fun σ H Q h => ?_⟩
  obtain ⟨S, ρ, hm, hp⟩ := h
  have k : tE X.K X.mg E m .sh (f2 g fa fb) σ H fun x H' => ∃ k, x = .bl k ∧ Q k H' := by
    refine ⟨S, ρ, hm, (PostW.bind hp).post fun d v S1 H1 s1 r1 h1 => ?_⟩
    cases d with
    | bl c =>
      cases r1
      exact ⟨c, rfl, h1 S1 H1 (Step.refl s1.sub)⟩
    | _ => exact h1.elim
  exact two hr k
theorem je_int {i : Int} {j} : JE X E m .sh (.Constant (.int i) j pos) (fC (.int i)) := ⟨PEimp pe_int fun σ H Q h => by obtain ⟨S, ρ, hm, hp⟩ := h; exact Post.val hp hm.1 (.int i)⟩
theorem je_bl {i : Bool} {j} : JE X E m .sh (.Constant (.bool i) j pos) (fC (.bl i)) := ⟨PEimp pe_bl fun σ H Q h => by obtain ⟨S, ρ, hm, hp⟩ := h; exact Post.val hp hm.1 (.bl i)⟩
theorem je_non {j} : JE X E m .sh (.Constant .none j pos) (fC .non) := ⟨PEimp pe_non fun σ H Q h => by obtain ⟨S, ρ, hm, hp⟩ := h; exact Post.val hp hm.1 .non⟩
/-- a name whose data are shared -/
theorem je_var (i : Nat) {x : Str} (hmd : mdAt m i = .sh := by rfl) (hN : X.N[i]? = some x := by rfl) (hv : Vis X.env.scope x := by first | exact Or.inl rfl | exact Or.inr (Or.inl rfl) | exact Or.inr (Or.inr rfl)) (hd : (x == ("__debug__" : Str)) = false := by decide)
    (hcd : (x == ("__classdict__" : Str)) = false := by decide) : JE X E m .sh (.Name x pos) (fV i) := by
  refine ⟨PEimp (pe_var hN hv hd hcd) fun σ H Q h => ?_⟩
  obtain ⟨S, ρ, ⟨hs, F, hm⟩, hp⟩ := h
  unfold fV at hp
  split at hp
  · rename_i d e
    obtain ⟨v, e1, e2⟩ := hm.at_ i d e
    rw [hmd] at e2
    exact ⟨v, e1, hp.val hs e2.1⟩
  · exact hp.elim
theorem ja_nil : JA X E m [] fA0 := ⟨PAimp pa_nil fun σ H Q h => by obtain ⟨S, ρ, hm, hp⟩ := h; exact hp S H (Step.refl hm.1) [] .nil⟩
theorem ja_cons {fr : Env → Res (List D)} (ha : JE X E m .sh a fa) (hr : JA X E m es fr) (hs : starEach (a :: es) X.env = (false, eval a X.env) :: starEach es X.env := by rfl) : JA X E m (a :: es) (fA fa fr) := by
  refine ⟨PAimp (pa_cons ha.pe hr.pa hs) fun σ H Q h => ?_⟩
  obtain ⟨S, ρ, hm, hp⟩ := h
  refine ⟨S, ρ, hm, (PostW.bind hp).post fun d v S1 H1 s1 r1 h1 => ?_⟩
  refine ⟨S1, ρ, hm.step s1, (PostW.bind h1).imp fun ds S2 H2 s2 h2 vs rs => ?_⟩
  exact h2 S2 H2 (Step.refl s2.sub) (v :: vs) (.cons (r1.mono s2.ss) rs)
def gTupD (ds : List D) : Res D := if ds.length ≤ 100000 then .ok (.tup ds) else .er
def gLstD (ds : List D) : Res D := if ds.length ≤ 100000 then .ok (.lst ds) else .er
theorem small5 {n : Nat} (h : n ≤ 100000) : n ≤ sizeLine := by rw [sizeLine_eq]; omega
theorem je_tup {fr : Env → Res (List D)} {x1} (h : JA X E m es fr) : JE X E m .sh (.Tuple es x1 pos) (fOn gTupD fr) := by
  refine ⟨PEimp (pe_tup h.pa) fun σ H Q h => ?_⟩
  obtain ⟨S, ρ, hm, hp⟩ := h
  refine ⟨S, ρ, hm, (Post.bind hp).imp fun ds S1 H1 s1 h1 vs rs => ?_⟩
  unfold gTupD at h1
  split at h1
  · rename_i hz
    exact ⟨by rw [rs.len]; exact small5 hz, fun p hp => h1.tup s1.sub rs hp⟩
  · exact h1.elim
theorem je_lst {fr : Env → Res (List D)} (h : JA X E m es fr) (hmd : md = .sh ∨ md = .ow := by first | exact .inl rfl | exact .inr rfl) : JE X E m md (.List es pos) (fOn gLstD fr) := by
  refine ⟨PEimp (pe_lst h.pa) fun σ H Q h => ?_⟩
  obtain ⟨S, ρ, hm, hp⟩ := h
  refine ⟨S, ρ, hm, (Post.bind hp).imp fun ds S1 H1 s1 h1 vs rs => ?_⟩
  unfold gLstD at h1
  split at h1
  · rename_i hz
    exact ⟨by rw [rs.len]; exact small5 hz, fun p hp => h1.list hmd s1.sub rs hp⟩
  · exact h1.elim
def fAnd (fa fb : Env → Res Bool) : Env → Res Bool := fun ρ => (fa ρ).bind fun c => if c = true then fb ρ else .ok false
def fOr (fa fb : Env → Res Bool) : Env → Res Bool := fun ρ => (fa ρ).bind fun c => if c = true then .ok true else fb ρ
def fNot (fa : Env → Res Bool) : Env → Res Bool := fun ρ => (fa ρ).bind fun c => .ok (!c)
def fIf (fc : Env → Res Bool) (fa fb : Env → Res D) : Env → Res D := fun ρ => (fc ρ).bind fun c => if c = true then fa ρ else fb ρ
variable {ga gb gc : Env → Res Bool} {c : Expr} {rest : List Expr}
theorem JW.jt (h : JW X E m a ga) : JT X E m a ga := ⟨h.pw.pt⟩
theorem jw_and1 (ha : JT X E m a ga) : JW X E m (.BoolOp .And [a] pos) ga := ⟨pw_and1 ha.pt⟩
theorem jw_or1 (ha : JT X E m a ga) : JW X E m (.BoolOp .Or [a] pos) ga := ⟨pw_or1 ha.pt⟩
theorem and_ok {K : PySem.W.Frag} {mg : Str → Option Value} {σ : L2.St} {H : Hp} {Q : Bool → Hp → Prop} (h : tT K mg E m (fAnd ga gb) σ H Q) : tAnd (tT K mg E m ga) (tT K mg E m gb) σ H Q := by
  obtain ⟨S, ρ, hm, hp⟩ := h
  refine ⟨S, ρ, hm, (PostW.bind hp).imp fun d S1 H1 s1 h1 => ?_⟩
  cases d with
  | true => exact ⟨S1, ρ, hm.step s1, h1⟩
  | false => exact h1 S1 H1 (Step.refl s1.sub)
theorem or_ok {K : PySem.W.Frag} {mg : Str → Option Value} {σ : L2.St} {H : Hp} {Q : Bool → Hp → Prop} (h : tT K mg E m (fOr ga gb) σ H Q) : tOr (tT K mg E m ga) (tT K mg E m gb) σ H Q := by
  obtain ⟨S, ρ, hm, hp⟩ := h
  refine ⟨S, ρ, hm, (PostW.bind hp).imp fun d S1 H1 s1 h1 => ?_⟩
  cases d with
  | false => exact ⟨S1, ρ, hm.step s1, h1⟩
  | true => exact h1 S1 H1 (Step.refl s1.sub)
theorem jw_and (ha : JT X E m a ga) (hb : JW X E m (.BoolOp .And (b :: rest) pos) gb) : JW X E m (.BoolOp .And (a :: b :: rest) pos) (fAnd ga gb) :=
  ⟨PWimp (pw_and ha.pt hb.pw) fun σ H Q h => and_ok h⟩
theorem jw_or (ha : JT X E m a ga) (hb : JW X E m (.BoolOp .Or (b :: rest) pos) gb) : JW X E m (.BoolOp .Or (a :: b :: rest) pos) (fOr ga gb) :=
  ⟨PWimp (pw_or ha.pt hb.pw) fun σ H Q h => or_ok h⟩
theorem jt_not (ha : JT X E m a ga) : JT X E m (.UnaryOp .Not a pos) (fNot ga) := by
  refine ⟨PTimp (pt_not ha.pt) fun σ H Q h => ?_⟩
  obtain ⟨S, ρ, hm, hp⟩ := h
  exact ⟨S, ρ, hm, (PostW.bind hp).imp fun d S1 H1 s1 h1 => h1 S1 H1 (Step.refl s1.sub)⟩
/-- as values: all are bools -/
def fBv (f : Env → Res Bool) : Env → Res D := fun ρ => (f ρ).bind fun b => .ok (.bl b)
theorem je_and (ha : JE X E m .sh a fa) (hb : JE X E m .sh (.BoolOp .And (b :: rest) pos) (fBv gb)) : JE X E m .sh (.BoolOp .And (a :: b :: rest) pos) (fBv (fAnd (fB fa) gb)) := by
  refine ⟨PEimp (pe_and ha.pe hb.pe) fun σ H Q h => ?_⟩
  obtain ⟨S, ρ, hm, hp⟩ := h
  refine ⟨S, ρ, hm, (PostW.bind (PostW.bind (Post.bind hp))).post fun d v S1 H1 s1 r1 h1 => ?_⟩
  cases d with
  | bl c =>
    cases r1
    refine ⟨c, rfl, ?_⟩
    have h1 := h1 S1 H1 (Step.refl s1.sub)
    cases c with
    | true =>
      refine ⟨S1, ρ, hm.step s1, ?_⟩
      show Post _ _ _ _ _ _ ((gb ρ).bind _) Q
      revert h1
      show PostW _ _ _ _ _ (gb ρ) _ → _
      cases gb ρ with
      | ok x => exact fun h1 => h1 S1 H1 (Step.refl s1.sub)
      | ex c fs => exact fun h1 => h1
      | er => exact fun h1 => h1
    | false =>
      have h2 := h1 S1 H1 (Step.refl s1.sub)
      exact Post.val h2 s1.sub (.bl false)
  | _ => exact h1.elim
/-- the last one -/
theorem je_last {op} (ha : JE X E m .sh a fa) : JE X E m .sh (.BoolOp op [a] pos) (fBv (fB fa)) := by
  refine ⟨PEimp (pe_one ha.pe) fun σ H Q h => ?_⟩
  obtain ⟨S, ρ, hm, hp⟩ := h
  refine ⟨S, ρ, hm, (PostW.bind (Post.bind hp)).post fun d v S1 H1 s1 r1 h1 => ?_⟩
  cases d with
  | bl c => exact Post.val (h1 S1 H1 (Step.refl s1.sub)) s1.sub r1
  | _ => exact h1.elim
theorem je_not (ha : JE X E m .sh a fa) : JE X E m .sh (.UnaryOp .Not a pos) (fBv (fNot (fB fa))) := by
  refine ⟨PEimp (pe_not ha.pe) fun σ H Q h => ?_⟩
  obtain ⟨S, ρ, hm, hp⟩ := h
  refine ⟨S, ρ, hm, (PostW.bind (PostW.bind (Post.bind hp))).post fun d v S1 H1 s1 r1 h1 => ?_⟩
  cases d with
  | bl c =>
    cases r1
    exact ⟨c, rfl, Post.val (h1 S1 H1 (Step.refl s1.sub) S1 H1 (Step.refl s1.sub)) s1.sub (.bl _)⟩
  | _ => exact h1.elim
end
end Da
namespace Da
open PySem PySem.Spec L2
def dI (c : Int → Int → Bool) (g : Int → Int → Int) : D → D → Res D
  | .int i, .int j => if c i j = true then .ok (.int (g i j)) else .er
  | _, _ => .er
def dP (p : Int → Int → Bool) : D → D → Res D
  | .int i, .int j => .ok (.bl (p i j))
  | _, _ => .er
def yes2 (_ _ : Int) : Bool := true
def mulOk (i j : Int) : Bool := stuck (i.natAbs.log2 + j.natAbs.log2 < 1000000)
theorem mulOk_yes {i j : Int} (h : i.natAbs.log2 + j.natAbs.log2 < 1000000) : mulOk i j = true := stuck_iff.mpr h
theorem mulOk_lt {i j : Int} (h : mulOk i j = true) : i.natAbs.log2 + j.natAbs.log2 < 1000000 := stuck_iff.mp h
def divOk (_ j : Int) : Bool := stuck (j ≠ 0 ∧ j.natAbs.log2 < 9000)
def modOk (_ j : Int) : Bool := decide (j ≠ 0)
def powOk (i j : Int) : Bool := stuck (0 ≤ j ∧ j ≤ 1000000 ∧ i.natAbs < 18446744073709551616)
section
variable {K : PySem.W.Frag} {mg : Str → Option Value} {E : XK} {S S' H H' : Hp}
theorem opd_I {C : Int → Int → Prop} {g : Int → Int → Int} {c : Int → Int → Bool} (hc : ∀ i j, c i j = true → C i j) : OpD K mg .sh (rI C fun i j => .int (g i j)) (dI c g) := by
  intro E S H x y dx dy Q hs rx ry h
  cases dx with
  | int i =>
    cases dy with
    | int j =>
      simp only [dI] at h
      split at h
      · rename_i hcc
        cases rx; cases ry
        exact ⟨i, j, rfl, rfl, hc i j hcc, h.val hs (.int _)⟩
      · exact h.elim
    | _ => exact h.elim
  | _ => exact h.elim
theorem opd_I0 {g : Int → Int → Int} : OpD K mg .sh (rI0 fun i j => .int (g i j)) (dI yes2 g) := by
  intro E S H x y dx dy Q hs rx ry h
  cases dx with
  | int i =>
    cases dy with
    | int j =>
      cases rx; cases ry
      exact ⟨i, j, rfl, rfl, Post.val h hs (.int _)⟩
    | _ => exact h.elim
  | _ => exact h.elim
theorem opd_P {p : Int → Int → Bool} : OpD K mg .sh (rI0 fun i j => .bl (p i j)) (dP p) := by
  intro E S H x y dx dy Q hs rx ry h
  cases dx with
  | int i =>
    cases dy with
    | int j =>
      cases rx; cases ry
      exact ⟨i, j, rfl, rfl, Post.val h hs (.bl _)⟩
    | _ => exact h.elim
  | _ => exact h.elim
end
section
variable {X : Cx}
def CDivX (_ j : Int) : Prop := j ≠ 0 ∧ j.natAbs.log2 < 9000
theorem op_fdivX : OpR X (binaryOp .FloorDiv) (rI CDivX fun i j => .int (i.fdiv j)) :=
  opI fun _ _ _ _ _ _ _ hc q => PyProof.Rows.floordiv_int hc.1 q (.inl (PyProof.noPylong_of_log2 hc.2))
end
section
variable {X : Cx} {E : WX} {m : Mds} {md : Md} {a b : Expr} {es : List Expr} {fa fb : Env → Res D} {pos : Pos}
def dSub := dI yes2 (fun i j => i - j)
def dMul := dI mulOk (fun i j => i * j)
def dDiv := dI divOk (fun i j => i.fdiv j)
def dMod := dI modOk (fun i j => i.fmod j)
def dPow := dI powOk (fun i j => i ^ j.toNat)
def dLt := dP (fun i j => decide (i < j))
def dLe := dP (fun i j => decide (i ≤ j))
def dGt := dP (fun i j => decide (j < i))
def dGe := dP (fun i j => decide (j ≤ i))
theorem je_sub (ha : JE X E m .sh a fa) (hb : JE X E m .sh b fb) : JE X E m .sh (.BinOp a .Sub b pos) (f2 dSub fa fb) := je_op op_sub opd_I0 ha hb
theorem je_mulI (ha : JE X E m .sh a fa) (hb : JE X E m .sh b fb) : JE X E m .sh (.BinOp a .Mult b pos) (f2 dMul fa fb) := je_op op_mulW (opd_I fun i j h => mulOk_lt h) ha hb
theorem je_div (ha : JE X E m .sh a fa) (hb : JE X E m .sh b fb) : JE X E m .sh (.BinOp a .FloorDiv b pos) (f2 dDiv fa fb) := je_op op_fdivX (opd_I fun i j h => stuck_iff.mp h) ha hb
theorem je_mod (ha : JE X E m .sh a fa) (hb : JE X E m .sh b fb) : JE X E m .sh (.BinOp a .Mod b pos) (f2 dMod fa fb) := je_op op_modN (opd_I fun i j h => of_decide_eq_true h) ha hb
theorem powOk_ok {i j : Int} (h : powOk i j = true) : CPow i j := by
  obtain ⟨h1, h2, h3⟩ := stuck_iff.mp h
  exact ⟨h1, h2, by
    show i.natAbs < 2 ^ 64
    omega⟩
theorem je_pow (ha : JE X E m .sh a fa) (hb : JE X E m .sh b fb) : JE X E m .sh (.BinOp a .Pow b pos) (f2 dPow fa fb) := je_op op_pow (opd_I fun i j h => powOk_ok h) ha hb
def dNeg : D → Res D
  | .int i => .ok (.int (-i))
  | _ => .er
theorem je_neg (ha : JE X E m .sh a fa) : JE X E m .sh (.UnaryOp .USub a pos) (f1 dNeg fa) := je_un un_neg (fun E S H x dx Q hs rx h => by
  cases dx with
  | int i =>
    cases rx
    exact ⟨i, rfl, Post.val h hs (.int _)⟩
  | _ => exact h.elim) ha
theorem jt_lt (ha : JE X E m .sh a fa) (hb : JE X E m .sh b fb) : JT X E m (.Compare a [.Lt] [b] pos) (fB (f2 dLt fa fb)) := jt_cmp op_lt opd_P ha hb (nomark _)
theorem jt_gt (ha : JE X E m .sh a fa) (hb : JE X E m .sh b fb) : JT X E m (.Compare a [.Gt] [b] pos) (fB (f2 dGt fa fb)) := jt_cmp op_gt opd_P ha hb (nomark _)
theorem jt_ge (ha : JE X E m .sh a fa) (hb : JE X E m .sh b fb) : JT X E m (.Compare a [.GtE] [b] pos) (fB (f2 dGe fa fb)) := jt_cmp op_ge opd_P ha hb (nomark _)
end
def szOk (n : Nat) : Bool := stuck (n ≤ 1000000)
theorem szOk_yes {n : Nat} (h : n ≤ 1000000) : szOk n = true := stuck_iff.mpr h
theorem szOk_le {n : Nat} (h : szOk n = true) : n ≤ 1000000 := stuck_iff.mp h
theorem szOk_ok {n : Nat} (h : szOk n = true) : n ≤ sizeLine := by
  have := szOk_le h
  rw [sizeLine_eq]; omega
def dAdd : D → D → Res D
  | .int i, .int j => .ok (.int (i + j))
  | .lst a, .lst b => if szOk (a.length + b.length) = true then .ok (.lst (a ++ b)) else .er
  | .tup a, .tup b => if szOk (a.length + b.length) = true then .ok (.tup (a ++ b)) else .er
  | .str a, .str b => if szOk (a.length + b.length) = true then .ok (.str (a ++ b)) else .er
  | _, _ => .er
def dAddL : D → D → Res D
  | .lst a, .lst b => if szOk (a.length + b.length) = true then .ok (.lst (a ++ b)) else .er
  | _, _ => .er
abbrev rStrAdd : R2 := fun x y H Q => ∃ i j, x = .str i ∧ y = .str j ∧ i.length + j.length ≤ sizeLine ∧ Q (.str (i ++ j)) H
def rAddAll (K : PySem.W.Frag) : R2 := fun x y H Q => ((rI0 fun i j => .int (i + j)) x y H Q ∨ rCat x y H Q) ∨ (rCatA K x y H Q ∨ rStrAdd x y H Q)
section
variable {K : PySem.W.Frag} {mg : Str → Option Value} {X : Cx} {E : WX} {m : Mds} {md : Md} {a b : Expr} {es : List Expr} {fa fb : Env → Res D} {pos : Pos}
theorem op_addAll : OpR X (binaryOp .Add) (rAddAll X.K) := OpR.or (OpR.or op_add op_cat) (OpR.or op_catA op_add_str)
theorem Post.of_if {md : Md} {E : XK} {S H : Hp} {r : Res D} {c : Bool} {Q : VK} (h : Post K mg E S H md (if c = true then r else .er) Q) : c = true ∧ Post K mg E S H md r Q := by
  split at h
  · rename_i hc; exact ⟨hc, h⟩
  · exact h.elim
theorem RepL.nil_iff {S : Hp} {vs : List V} {ds : List D} (r : RepL K mg S vs ds) : vs = [] ↔ ds = [] := by
  have := r.len
  constructor
  · intro h; subst h; exact List.eq_nil_of_length_eq_zero this.symm
  · intro h; subst h; exact List.eq_nil_of_length_eq_zero this
theorem catL {E : XK} {S H : Hp} {x y : V} {da db : List D} {Q : VK} (hmd : md = .sh ∨ md = .ow) (hs : Same S H) (rx : Rep K mg S x (.lst da)) (ry : Rep K mg S y (.lst db)) (h : Post K mg E S H md (if szOk (da.length + db.length) = true then .ok (.lst (da ++ db)) else .er) Q) : rCat x y H Q := by
  obtain ⟨hz, h⟩ := h.of_if
  obtain ⟨a, vs, rfl, ha, ra⟩ := rx.of_lst
  obtain ⟨b, ws, rfl, hb, rb⟩ := ry.of_lst
  exact ⟨a, b, vs, ws, rfl, rfl, hs _ _ ha, hs _ _ hb, by rw [ra.len, rb.len]; exact szOk_ok hz, fun p hp => h.list hmd hs (ra.append rb) hp⟩
theorem opd_add : OpD K mg .sh (rAddAll K) dAdd := by
  intro E S H x y dx dy Q hs rx ry h
  cases dx with
  | int i =>
    cases dy with
    | int j =>
      cases rx; cases ry
      exact .inl (.inl ⟨i, j, rfl, rfl, Post.val h hs (.int _)⟩)
    | _ => exact h.elim
  | str i =>
    cases dy with
    | str j =>
      obtain ⟨hz, h⟩ := Post.of_if h
      cases rx; cases ry
      exact .inr (.inr ⟨i, j, rfl, rfl, szOk_ok hz, Post.val h hs (.str _)⟩)
    | _ => exact h.elim
  | lst da =>
    cases dy with
    | lst db => exact .inl (.inr (catL (.inl rfl) hs rx ry h))
    | _ => exact h.elim
  | tup da =>
    cases dy with
    | tup db =>
      obtain ⟨hz, h⟩ := Post.of_if h
      obtain ⟨a, vs, rfl, ha, ra⟩ := rx.of_tup
      obtain ⟨b, ws, rfl, hb, rb⟩ := ry.of_tup
      refine .inr (.inl ⟨a, b, vs, ws, rfl, rfl, same_t hs ha, same_t hs hb, by rw [ra.len, rb.len]; exact szOk_ok hz, fun e => ?_, fun e1 e2 => ?_, fun _ _ p hp => h.tup hs (ra.append rb) hp⟩)
      · have e' := ra.nil_iff.mp e
        subst e'
        exact h.val hs ry
      · have e' := rb.nil_iff.mp e2
        subst e'
        rw [List.append_nil] at h
        exact h.val hs rx
    | _ => exact h.elim
  | _ => exact h.elim
theorem opd_addL : OpD K mg .ow (rAddAll K) dAddL := by
  intro E S H x y dx dy Q hs rx ry h
  cases dx with
  | lst da =>
    cases dy with
    | lst db => exact .inl (.inr (catL (.inr rfl) hs rx ry h))
    | _ => exact h.elim
  | _ => exact h.elim
theorem je_add (ha : JE X E m .sh a fa) (hb : JE X E m .sh b fb) : JE X E m .sh (.BinOp a .Add b pos) (f2 dAdd fa fb) := je_op op_addAll opd_add ha hb
theorem je_addL (ha : JE X E m .sh a fa) (hb : JE X E m .sh b fb) : JE X E m .ow (.BinOp a .Add b pos) (f2 dAddL fa fb) := je_op op_addAll opd_addL ha hb
end
def dIx : D → D → Res D
  | .lst xs, .int i => match atI xs i with
    | some d => .ok d
    | none => .er
  | .frl xs, .int i => match atI xs i with
    | some d => .ok d
    | none => .er
  | .tup xs, .int i => match atI xs i with
    | some d => .ok d
    | none => .er
  | .str x, .int i => if szOk x.length = true then (match atI x.cps.toList i with
    | some c => .ok (.str ⟨#[c]⟩)
    | none => .er) else .er
  | _, _ => .er
section
variable {K : PySem.W.Frag} {mg : Str → Option Value} {X : Cx} {E : WX} {m : Mds} {md : Md} {a b : Expr} {es : List Expr} {fa fb : Env → Res D} {pos : Pos}
theorem RepL.atI {S : Hp} {vs : List V} {ds : List D} {i : Int} {d : D} (r : RepL K mg S vs ds) (h : L2.atI ds i = some d) : ∃ v, L2.atI vs i = some v ∧ Rep K mg S v d := by
  unfold L2.atI at h ⊢
  rw [r.len]
  cases e : ixN ds.length i with
  | none => rw [e] at h; cases h
  | some j =>
    rw [e] at h
    exact r.get h
theorem opd_ix : OpD K mg .sh (rIx K) dIx := by
  intro E S H x y dx dy Q hs rx ry h
  cases dx with
  | lst xs =>
    cases dy with
    | int i =>
      cases ry
      simp only [dIx] at h
      split at h
      · rename_i d e
        obtain ⟨p, vs, rfl, hp, rv⟩ := rx.of_lst
        obtain ⟨v, ev, r⟩ := rv.atI e
        exact .inl ⟨p, vs, i, v, rfl, rfl, .inl (.inl (hs _ _ hp)), ev, h.val hs r⟩
      · exact h.elim
    | _ => exact h.elim
  | frl xs =>
    cases dy with
    | int i =>
      cases ry
      simp only [dIx] at h
      split at h
      · rename_i d e
        obtain ⟨p, vs, rfl, hp, rv⟩ := rx.of_frl
        obtain ⟨v, ev, r⟩ := rv.atI e
        exact .inl ⟨p, vs, i, v, rfl, rfl, same_l hs hp, ev, h.val hs r⟩
      · exact h.elim
    | _ => exact h.elim
  | tup xs =>
    cases dy with
    | int i =>
      cases ry
      simp only [dIx] at h
      split at h
      · rename_i d e
        obtain ⟨p, vs, rfl, hp, rv⟩ := rx.of_tup
        obtain ⟨v, ev, r⟩ := rv.atI e
        exact .inr (.inl ⟨p, vs, i, v, rfl, rfl, same_t hs hp, ev, h.val hs r⟩)
      · exact h.elim
    | _ => exact h.elim
  | str z =>
    cases dy with
    | int i =>
      cases ry
      simp only [dIx] at h
      obtain ⟨hz, h⟩ := Post.of_if h
      split at h
      · rename_i c e
        cases rx
        exact .inr (.inr ⟨z, i, c, rfl, rfl, szOk_ok hz, e, h.val hs (.str _)⟩)
      · exact h.elim
    | _ => exact h.elim
  | _ => exact h.elim
theorem je_item (ha : JE X E m .sh a fa) (hb : JE X E m .sh b fb) (hs : PlainIx b := by intro _ _; rfl) : JE X E m .sh (.Subscript a b pos) (f2 dIx fa fb) := je_ix ix_seq opd_ix ha hb hs
end
section
variable {K : PySem.W.Frag} {mg : Str → Option Value} {X : Cx} {E : WX} {m : Mds} {md : Md} {a b e : Expr} {es : List Expr} {fa fb : Env → Res D} {fs : Env → Res (List D)} {pos p : Pos} {x : Str} {id T : String} {r : List V → Hp → VK → Prop} {g : List D → Res D}
theorem call1 {K : PySem.W.Frag} {mg : Str → Option Value} (hr : CallD K mg md r g) {σ : L2.St} {H : Hp} {Q : VK} (h : tE K mg E m md (fOn g fs) σ H Q) : tCB r (tA K mg E m fs) σ H Q := by
  obtain ⟨S, ρ, hm, hp⟩ := h
  exact ⟨S, ρ, hm, (Post.bind hp).imp fun ds S1 H1 s1 h1 vs rs => hr _ S1 H1 vs ds Q s1.sub rs h1⟩
theorem je_callB (hc : CallR X (.builtin id) r) (hr : CallD X.K X.mg md r g) (hm : X.mg x = none) (ha : JA X E m (e :: es) fs) (hg : Gl X x := by rfl) (hv : bootBuiltins x = some (.builtin id) := by decide +kernel)
    (hn : x ≠ "__name__" := by decide) (hdb : (x == ("__debug__" : Str)) = false := by decide) (he : starEach (e :: es) X.env = (false, eval e X.env) :: starEach es X.env := by rfl) (hpl : (backTo pos (starEach es X.env)).any (·.1) = false := by rfl) :
    JE X E m md (.Call (.Name x p) (e :: es) [] pos) (fOn g fs) := ⟨PEimp (pe_callB hc hg hm hv ha.pa hn hdb he hpl) fun σ H Q h => call1 hr h⟩
theorem je_callTy (hc : CallR X (.type T) r) (hr : CallD X.K X.mg md r g) (hm : X.mg x = none) (ha : JA X E m (e :: es) fs) (hg : Gl X x := by rfl) (hv : bootBuiltins x = some (.type T) := by decide +kernel)
    (hn : x ≠ "__name__" := by decide) (hdb : (x == ("__debug__" : Str)) = false := by decide) (he : starEach (e :: es) X.env = (false, eval e X.env) :: starEach es X.env := by rfl) (hpl : (backTo pos (starEach es X.env)).any (·.1) = false := by rfl) :
    JE X E m md (.Call (.Name x p) (e :: es) [] pos) (fOn g fs) := ⟨PEimp (pe_callTy hc hg hm hv ha.pa hn hdb he hpl) fun σ H Q h => call1 hr h⟩
end
end Da
namespace Da
open PySem PySem.Spec L2
inductive Fl where
  | nx (ρ : Env) | rt (d : D) | bk (ρ : Env) | ct (ρ : Env) | xc (c : Str) (fs : List (Str × D)) (ρ : Env)
abbrev FS := Env → Res Fl
/-- an expression's end, in a statement -/
def lift {α : Type} (r : Res α) (ρ : Env) (k : α → Res Fl) : Res Fl := match r with
  | .ok a => k a
  | .ex c fs => .ok (.xc c fs ρ)
  | .er => .er
@[simp] theorem lift_ok {α : Type} (a : α) (ρ : Env) (k : α → Res Fl) : lift (.ok a) ρ k = k a := rfl
@[simp] theorem lift_ex {α : Type} (c : Str) (fs : List (Str × D)) (ρ : Env) (k : α → Res Fl) : lift (.ex c fs : Res α) ρ k = .ok (.xc c fs ρ) := rfl
@[simp] theorem lift_er {α : Type} (ρ : Env) (k : α → Res Fl) : lift (.er : Res α) ρ k = .er := rfl
section
variable {K : PySem.W.Frag} {mg : Str → Option Value} {m m1 m2 : Mds} {S0 H0 S S1 S' H H' H1 : Hp} {σ σ' : L2.St} {ρ : Env} {F : Nat → List Addr}
/-- the state of a body that was entered with the view S0 of H0 -/
def StF (K : PySem.W.Frag) (mg : Str → Option Value) (m : Mds) (S0 H0 S : Hp) (F : Nat → List Addr) (σ : L2.St) (ρ : Env) (H : Hp) : Prop :=
  Step S0 H0 S H ∧ EnvF K mg m F S H σ ρ ∧ ∀ i d, ρ[i]? = some (some d) → ∀ a, a ∈ F i → H0 a = none
def StM (K : PySem.W.Frag) (mg : Str → Option Value) (m : Mds) (S0 H0 : Hp) (σ : L2.St) (ρ : Env) (H : Hp) : Prop := ∃ S F, StF K mg m S0 H0 S F σ ρ H
theorem StF.envM (h : StF K mg m S0 H0 S F σ ρ H) : EnvM K mg m S H σ ρ := ⟨h.1.sub, F, h.2.1⟩
theorem StF.step (h : StF K mg m S0 H0 S F σ ρ H) (s : Step S H S' H') : StF K mg m S0 H0 S' F σ ρ H' := ⟨h.1.trans s, h.2.1.step s, h.2.2⟩
/-- the entry moved to the present view, and back -/
theorem Step.fwd (h : Step S0 H0 S H) : Step S H0 S H := ⟨h.hh, Same.refl _, h.sub, fun _ x => .inl x⟩
theorem Step.back (h : Step S0 H0 S H) (k : Step S H0 S' H') : Step S0 H0 S' H' := ⟨k.hh, h.ss.trans k.ss, k.sub, fun a x => by
  rcases k.new a x with z | z
  · exact h.new a z
  · exact .inr z⟩
/-- a value handed out of a body -/
def RetOk (K : PySem.W.Frag) (mg : Str → Option Value) (S0 H0 : Hp) (md : Md) (d : D) (v : V) (H : Hp) : Prop := ∃ S fp, Step S0 H0 S H ∧ OwnAt K mg S H fp v d md ∧ fp.Nodup ∧ ∀ a, a ∈ fp → H0 a = none
/-- the ends of the loop around, what a return hands out -/
structure Lp where
  mb : Mds := []
  mc : Mds := []
  md : Md := .sh
/-- all slots shared -/
def SPost (K : PySem.W.Frag) (mg : Str → Option Value) (E : WX) (L : Lp) (S0 H0 : Hp) (m' : Mds) (o : Res Fl) (Dn : Ends) : Prop := match o with
  | .ok (.nx ρ) => ∀ σ H, StM K mg m' S0 H0 σ ρ H → Dn.nx σ H
  | .ok (.rt d) => ∀ v H, RetOk K mg S0 H0 L.md d v H → Dn.rt v H
  | .ok (.bk ρ) => ∀ σ H, StM K mg L.mb S0 H0 σ ρ H → Dn.bk σ H
  | .ok (.ct ρ) => ∀ σ H, StM K mg L.mc S0 H0 σ ρ H → Dn.ct σ H
  | .ok (.xc c fs ρ) => ∀ σ S F H cls dd, StF K mg [] S0 H0 S F σ ρ H → ExcAt K mg S H cls dd c fs → E cls dd σ H
  | .ex _ _ => False
  | .er => False
def tS (K : PySem.W.Frag) (mg : Str → Option Value) (E : WX) (L : Lp) (m m' : Mds) (F : FS) : TS := fun Dn σ H => ∃ S0 H0 ρ, StM K mg m S0 H0 σ ρ H ∧ SPost K mg E L S0 H0 m' (F ρ) Dn
/-- what lies at the addresses A is taken into the view -/
noncomputable def take (S H : Hp) (A : Addr → Prop) : Hp := open Classical in fun a => if A a then H a else S a
theorem take_in {A : Addr → Prop} {a : Addr} (h : A a) : take S H A a = H a := by unfold take; rw [if_pos h]
theorem take_out {A : Addr → Prop} {a : Addr} (h : ¬ A a) : take S H A a = S a := by unfold take; rw [if_neg h]
theorem take_same {A : Addr → Prop} (h : Same S H) (ho : ∀ a, A a → S a = none) : Same S (take S H A) := fun a o e => by
  rw [take_out (fun z => by rw [ho a z] at e; cases e)]
  exact e
theorem take_sub {A : Addr → Prop} (h : Same S H) : Same (take S H A) H := fun a o e => by
  by_cases z : A a
  · rw [take_in z] at e; exact e
  · rw [take_out z] at e; exact h a o e
theorem OwnTr.shared {A : Addr → Prop} (hs : Same S H) (ho : ∀ a, A a → S a = none) : ∀ {n : Nat} {fp : List Addr} {v : V} {d : D}, OwnTr K mg S H n fp v d → (∀ a, a ∈ fp → A a) → Rep K mg (take S H A) v d
  | 0, _, _, _, h, _ => h.1.mono (take_same (A := A) hs ho)
  | n + 1, _, _, _, h, hA => by
    obtain ⟨p, vs, ds, fps, rfl, rfl, e3, e4, e5, e6, e7, e8⟩ := h
    refine Rep.lstL (vs := vs) (by rw [take_in (hA p (by rw [e3]; exact List.mem_cons_self))]; exact e5) ⟨e6, fun i v d a b => ?_⟩
    have hl := (List.getElem?_eq_some_iff.mp b).1
    have hj := List.getElem?_eq_getElem (l := fps) (i := i) (by omega)
    exact (e8 i v d _ a b hj).shared hs ho fun a ha => hA a (by rw [e3]; exact List.mem_cons_of_mem _ (flat_mem hj ha))
theorem OwnTr.stays {A : Addr → Prop} (hs : Same S H) (ho : ∀ a, A a → S a = none) : ∀ {n : Nat} {fp : List Addr} {v : V} {d : D}, OwnTr K mg S H n fp v d → (∀ a, a ∈ fp → ¬ A a) → OwnTr K mg (take S H A) H n fp v d
  | 0, _, _, _, h, _ => ⟨h.1.mono (take_same (A := A) hs ho), h.2⟩
  | n + 1, _, _, _, h, hA => by
    obtain ⟨p, vs, ds, fps, e1, e2, e3, e4, e5, e6, e7, e8⟩ := h
    exact ⟨p, vs, ds, fps, e1, e2, e3, by rw [take_out (hA p (by rw [e3]; exact List.mem_cons_self))]; exact e4, e5, e6, e7, fun j w e f x y z => (e8 j w e f x y z).stays hs ho fun a ha => hA a (by rw [e3]; exact List.mem_cons_of_mem _ (flat_mem z ha))⟩
theorem OwnTh.shared {A : Addr → Prop} {fp : List Addr} {v : V} {d : D} {n k : Nat} {q : Addr} (hs : Same S H) (ho : ∀ a, A a → S a = none) (h : OwnTh K mg S H n k q fp v d) (hA : ∀ a, a ∈ fp → A a) : Rep K mg (take S H A) v d := by
  obtain ⟨p, vs, ds, fps, rfl, rfl, e3, e4, e5, e6, e7, h1, h2, h3, e8⟩ := h
  refine Rep.lstL (vs := vs) (by rw [take_in (hA p (by rw [e3]; exact List.mem_cons_self))]; exact e5) ⟨e6, fun i v d a b => ?_⟩
  by_cases hik : i = k
  · subst hik
    rw [h1] at a; rw [h2] at b
    cases a; cases b
    exact .exc
  · have hl := (List.getElem?_eq_some_iff.mp b).1
    have hj := List.getElem?_eq_getElem (l := fps) (i := i) (by omega)
    exact (e8 i v d _ hik a b hj).shared hs ho fun a ha => hA a (by rw [e3]; exact List.mem_cons_of_mem _ (flat_mem hj ha))
theorem OwnTh.stays {A : Addr → Prop} {fp : List Addr} {v : V} {d : D} {n k : Nat} {q : Addr} (hs : Same S H) (ho : ∀ a, A a → S a = none) (h : OwnTh K mg S H n k q fp v d) (hA : ∀ a, a ∈ fp → ¬ A a) : OwnTh K mg (take S H A) H n k q fp v d := by
  obtain ⟨p, vs, ds, fps, e1, e2, e3, e4, e5, e6, e7, h1, h2, h3, e8⟩ := h
  exact ⟨p, vs, ds, fps, e1, e2, e3, by rw [take_out (hA p (by rw [e3]; exact List.mem_cons_self))]; exact e4, e5, e6, e7, h1, h2, h3, fun j w e f i x y z => (e8 j w e f i x y z).stays hs ho fun a ha => hA a (by rw [e3]; exact List.mem_cons_of_mem _ (flat_mem z ha))⟩
theorem OwnAt.shared {A : Addr → Prop} {fp : List Addr} {v : V} {d : D} {md : Md} (h : OwnAt K mg S H fp v d md) (hs : Same S H) (ho : ∀ a, A a → S a = none) (hA : ∀ a, a ∈ fp → A a) : Rep K mg (take S H A) v d := by
  have ss := take_same (A := A) hs ho
  cases md with
  | owq q0 =>
    obtain ⟨e0, p, vs, ds, rfl, rfl, e3, e4, e5, e6⟩ := h
    exact Rep.lstL (by rw [take_in (hA p (by rw [e3]; exact List.mem_cons_self))]; exact e5) (e6.mono ss)
  | tr n b at_ =>
    cases b with
    | none => exact h.2.shared hs ho hA
    | some kq => exact h.2.shared hs ho hA
  | ex a0 b0 c0 =>
    obtain ⟨c, vfs, ds, e1, e2, e3, e4, e5, e6⟩ := h
    rw [e1, e2]; exact .exc
  | sh => exact h.1.mono ss
  | ow =>
    obtain ⟨p, vs, ds, rfl, rfl, e3, e4, e5, e6⟩ := h
    exact Rep.lstL (by rw [take_in (hA p (by rw [e3]; exact List.mem_cons_self))]; exact e5) (e6.mono ss)
  | ow2 =>
    obtain ⟨p, ps, dss, rfl, rfl, e3, e4, e5, e6, e7⟩ := h
    refine Rep.lstL (vs := ps.map V.ref) (by rw [take_in (hA p (by rw [e3]; exact List.mem_cons_self))]; exact e5) ⟨by rw [List.length_map, List.length_map, e6], fun i v d a b => ?_⟩
    rw [List.getElem?_map] at a b
    cases ea : ps[i]? with
    | none => rw [ea] at a; cases a
    | some q =>
      cases eb : dss[i]? with
      | none => rw [eb] at b; cases b
      | some ds =>
        rw [ea] at a; rw [eb] at b
        cases a; cases b
        obtain ⟨z1, vs, z2, z3⟩ := e7 i q ds ea eb
        exact Rep.lstL (by rw [take_in (hA q (by rw [e3]; exact List.mem_cons_of_mem _ (List.mem_of_getElem? ea)))]; exact z2) (z3.mono ss)
  | dk =>
    obtain ⟨p, kvs, ds, rfl, rfl, e3, e4, e5, e6⟩ := h
    have e6' := e6.mono ss
    refine Rep.dic (.inl (by rw [take_in (hA p (by rw [e3]; exact List.mem_cons_self))]; exact e5)) (by have := e6.len; rw [List.length_map] at this; exact this) fun i q d a b => ?_
    exact e6'.at_ i q.2 d (by rw [List.getElem?_map, a]; rfl) b
  | dt =>
    obtain ⟨p, kvs, ds, rfl, rfl, e3, e4, e5, e6⟩ := h
    have e6' := e6.mono ss
    refine Rep.dit (by rw [take_in (hA p (by rw [e3]; exact List.mem_cons_self))]; exact e5) (by have := e6.len; rw [List.length_map] at this; exact this) fun i q d a b => ?_
    exact e6'.at_ i q.2 d (by rw [List.getElem?_map, a]; rfl) b
  | ob p =>
    obtain ⟨dx, C, c, fs, ds, rfl, rfl, e3, e4, e5, e6, e7, e8, e9⟩ := h
    have e9' := e9.mono ss
    refine Rep.obj (by rw [take_in (hA p (by rw [e3]; exact List.mem_cons_self))]; exact e7) e6 (by have := e9.len; rw [List.length_map] at this; exact this) fun i q d a b => ?_
    exact e9'.at_ i q.2 d (by rw [List.getElem?_map, a]; rfl) b
/-- an owner whose addresses are not taken stays -/
theorem OwnAt.stays {A : Addr → Prop} {fp : List Addr} {v : V} {d : D} {md : Md} (h : OwnAt K mg S H fp v d md) (hs : Same S H) (ho : ∀ a, A a → S a = none) (hA : ∀ a, a ∈ fp → ¬ A a) : OwnAt K mg (take S H A) H fp v d md := by
  have ss := take_same (A := A) hs ho
  cases md with
  | owq q0 =>
    obtain ⟨e0, p, vs, ds, e1, e2, e3, e4, e5, e6⟩ := h
    exact ⟨e0, p, vs, ds, e1, e2, e3, by rw [take_out (hA p (by rw [e3]; exact List.mem_cons_self))]; exact e4, e5, e6.mono ss⟩
  | tr n b at_ =>
    cases b with
    | none => exact ⟨h.1, h.2.stays hs ho hA⟩
    | some kq => exact ⟨h.1, h.2.stays hs ho hA⟩
  | ex a0 b0 c0 =>
    obtain ⟨c, vfs, ds, e1, e2, e3, e4, e5, e6⟩ := h
    refine ⟨c, vfs, ds, e1, e2, e3, e4, e5.imp id fun ⟨dx, y1, y2⟩ => ⟨dx, y1, ss _ _ y2⟩, e6.mono (ss)⟩
  | sh => exact ⟨h.1.mono ss, h.2⟩
  | ow =>
    obtain ⟨p, vs, ds, e1, e2, e3, e4, e5, e6⟩ := h
    exact ⟨p, vs, ds, e1, e2, e3, by rw [take_out (hA p (by rw [e3]; exact List.mem_cons_self))]; exact e4, e5, e6.mono ss⟩
  | ow2 =>
    obtain ⟨p, ps, dss, e1, e2, e3, e4, e5, e6, e7⟩ := h
    refine ⟨p, ps, dss, e1, e2, e3, by rw [take_out (hA p (by rw [e3]; exact List.mem_cons_self))]; exact e4, e5, e6, fun j q ds x y => ?_⟩
    obtain ⟨z1, vs, z2, z3⟩ := e7 j q ds x y
    exact ⟨by rw [take_out (hA q (by rw [e3]; exact List.mem_cons_of_mem _ (List.mem_of_getElem? x)))]; exact z1, vs, z2, z3.mono ss⟩
  | dk =>
    obtain ⟨p, vs, ds, e1, e2, e3, e4, e5, e6⟩ := h
    exact ⟨p, vs, ds, e1, e2, e3, by rw [take_out (hA p (by rw [e3]; exact List.mem_cons_self))]; exact e4, e5, e6.mono ss⟩
  | dt =>
    obtain ⟨p, vs, ds, e1, e2, e3, e4, e5, e6⟩ := h
    exact ⟨p, vs, ds, e1, e2, e3, by rw [take_out (hA p (by rw [e3]; exact List.mem_cons_self))]; exact e4, e5, e6.mono ss⟩
  | ob p =>
    obtain ⟨dx, C, c, fs, ds, e1, e2, e3, e4, e5, e6, e7, e8, e9⟩ := h
    exact ⟨dx, C, c, fs, ds, e1, e2, e3, by rw [take_out (hA p (by rw [e3]; exact List.mem_cons_self))]; exact e4, by rw [take_out (hA dx (by rw [e3]; exact List.mem_cons_of_mem _ List.mem_cons_self))]; exact e5, e6, e7, e8, e9.mono ss⟩
/-- m1 has no more of one's own than m -/
def Weak (m m1 : Mds) : Prop := ∀ i, mdAt m1 i = mdAt m i ∨ mdAt m1 i = .sh
theorem mdAt_rep {n i : Nat} : mdAt (List.replicate n .sh) i = .sh := by
  unfold mdAt
  rw [List.getD_eq_getElem?_getD, List.getElem?_replicate]
  split <;> rfl
theorem weak_sh {m : Mds} (n : Nat) : Weak m (List.replicate n .sh) := fun i => .inr mdAt_rep
theorem Weak.nil (m : Mds) : Weak m [] := fun i => .inr (by unfold mdAt; simp)
theorem Weak.refl (m : Mds) : Weak m m := fun i => .inl rfl
theorem Weak.of : ∀ {m m1 : Mds}, (m.length = m1.length ∧ (m.zip m1).all (fun p => decide (p.2 = p.1) || decide (p.2 = .sh)) = true) → Weak m m1 := by
  intro m m1 h i
  obtain ⟨hl, h⟩ := h
  unfold mdAt
  by_cases hi : i < m.length
  · have hi1 : i < m1.length := by omega
    have := List.all_eq_true.mp h (m[i], m1[i]) (by
      refine List.mem_iff_getElem.mpr ⟨i, by rw [List.length_zip]; omega, ?_⟩
      rw [List.getElem_zip])
    rw [List.getD_eq_getElem?_getD, List.getD_eq_getElem?_getD, List.getElem?_eq_getElem hi, List.getElem?_eq_getElem hi1]
    rcases Bool.or_eq_true_iff.mp this with z | z
    · exact .inl (of_decide_eq_true z)
    · exact .inr (of_decide_eq_true z)
  · refine .inr ?_
    rw [List.getD_eq_getElem?_getD, List.getElem?_eq_none_iff.mpr (by omega)]
    rfl
theorem Weak.cons {x : Md} (w : Weak m m1) : Weak (x :: m) (x :: m1) := fun i => match i with
  | 0 => .inl rfl
  | i + 1 => w i
theorem Weak.consSh {x : Md} (w : Weak m m1) : Weak (x :: m) (.sh :: m1) := fun i => match i with
  | 0 => .inr rfl
  | i + 1 => w i
theorem StF.weakX (w : Weak m m1) (h : StF K mg m S0 H0 S F σ ρ H) : ∃ S' F', StF K mg m1 S0 H0 S' F' σ ρ H ∧ Same S S' ∧ ∀ a, S' a ≠ none → S a ≠ none ∨ ∃ i d, ρ[i]? = some (some d) ∧ a ∈ F i := by
  obtain ⟨st, e, nw⟩ := h
  let A : Addr → Prop := fun a => ∃ i d, ρ[i]? = some (some d) ∧ mdAt m1 i = .sh ∧ a ∈ F i
  have ho : ∀ a, A a → S a = none := fun a ⟨i, d, e1, _, e3⟩ => by
    obtain ⟨v, _, o⟩ := e.at_ i d e1
    exact (o.out e3).1
  let F' : Nat → List Addr := fun i => if mdAt m1 i = .sh then [] else F i
  refine ⟨take S H A, F', ⟨⟨st.hh, st.ss.trans (take_same st.sub ho), take_sub st.sub, fun a x => ?_⟩, ⟨e.len, fun i d e1 => ?_, fun i d e1 => ?_, fun i j d d' hij e1 e2 a ha => ?_⟩, fun i d e1 a ha => ?_⟩, take_same st.sub ho, fun a x => ?_⟩
  · by_cases z : A a
    · obtain ⟨i, d, e1, _, e3⟩ := z
      exact .inr (nw i d e1 a e3)
    · rw [take_out z] at x
      exact st.new a x
  · obtain ⟨v, e2, o⟩ := e.at_ i d e1
    refine ⟨v, e2, ?_⟩
    by_cases hsh : mdAt m1 i = .sh
    · rw [hsh]
      refine ⟨o.shared st.sub ho fun a ha => ⟨i, d, e1, hsh, ha⟩, ?_⟩
      show (if mdAt m1 i = .sh then [] else F i) = []
      rw [if_pos hsh]
    · rcases w i with z | z
      · rw [z]
        have : F' i = F i := if_neg hsh
        rw [this]
        refine o.stays st.sub ho fun a ha ⟨j, d', e1', e3', e4'⟩ => ?_
        by_cases hij : i = j
        · subst hij; exact hsh e3'
        · exact e.apart i j d d' hij e1 e1' a ha e4'
      · exact absurd z hsh
  · show (if mdAt m1 i = .sh then [] else F i).Nodup
    split
    · exact List.nodup_nil
    · exact e.nd i d e1
  · have ha' : a ∈ (if mdAt m1 i = .sh then [] else F i) := ha
    show a ∉ (if mdAt m1 j = .sh then [] else F j)
    split at ha'
    · cases ha'
    · split
      · exact fun z => nomatch z
      · exact e.apart i j d d' hij e1 e2 a ha'
  · have ha' : a ∈ (if mdAt m1 i = .sh then [] else F i) := ha
    split at ha'
    · cases ha'
    · exact nw i d e1 a ha'
  · by_cases z : A a
    · obtain ⟨i, d, e1, _, e3⟩ := z
      exact .inr ⟨i, d, e1, e3⟩
    · rw [take_out z] at x
      exact .inl x
theorem StF.weak (w : Weak m m1) (h : StF K mg m S0 H0 S F σ ρ H) : ∃ S' F', StF K mg m1 S0 H0 S' F' σ ρ H ∧ Same S S' := by
  obtain ⟨S', F', a, b, _⟩ := h.weakX w
  exact ⟨S', F', a, b⟩
theorem StM.weak (w : Weak m m1) (h : StM K mg m S0 H0 σ ρ H) : StM K mg m1 S0 H0 σ ρ H := by
  obtain ⟨S, F, h⟩ := h
  obtain ⟨S', F', h', _⟩ := h.weak w
  exact ⟨S', F', h'⟩
def F_set (F : Nat → List Addr) (i : Nat) (fp : List Addr) : Nat → List Addr := fun j => if j = i then fp else F j
theorem F_at {i : Nat} {fp : List Addr} : F_set F i fp i = fp := if_pos rfl
theorem F_off {i j : Nat} {fp : List Addr} (h : j ≠ i) : F_set F i fp j = F j := if_neg h
theorem mdAt_set {i j : Nat} {md : Md} (hi : i < m.length) : mdAt (m.set i md) j = if j = i then md else mdAt m j := by
  unfold mdAt
  rw [List.getD_eq_getElem?_getD, List.getElem?_set]
  by_cases h : j = i
  · rw [if_pos h.symm, if_pos h, if_pos hi]
    rfl
  · rw [if_neg (fun z => h z.symm), if_neg h, List.getD_eq_getElem?_getD]
theorem StF.set {i : Nat} {d : D} {v : V} {md : Md} {fp : List Addr} (h : StF K mg m S0 H0 S F σ ρ H) (hi : i < m.length) (o : OwnAt K mg S H fp v d md) (hn : fp.Nodup) (hf : ∀ a, a ∈ fp → H0 a = none)
    (hd : ∀ j e, j ≠ i → ρ[j]? = some (some e) → ∀ a, a ∈ F j → a ∉ fp) : StF K mg (m.set i md) S0 H0 S (F_set F i fp) (σ.set i (some v)) (ρ.set i (some d)) H := by
  obtain ⟨st, e, nw⟩ := h
  have key : ∀ j d', (ρ.set i (some d))[j]? = some (some d') → (j = i ∧ d' = d ∧ i < ρ.length) ∨ (j ≠ i ∧ ρ[j]? = some (some d')) := fun j d' ej => by
    by_cases hj : j = i
    · subst hj
      rw [List.getElem?_set, if_pos rfl] at ej
      split at ej
      · rename_i hl
        have : d = d' := by injection ej with z; injection z
        exact .inl ⟨rfl, this.symm, hl⟩
      · cases ej
    · rw [List.getElem?_set_ne (Ne.symm hj)] at ej
      exact .inr ⟨hj, ej⟩
  refine ⟨st, ⟨by rw [List.length_set, List.length_set]; exact e.len, fun j d' ej => ?_, fun j d' ej => ?_, fun j k d1 d2 hjk e1 e2 a ha => ?_⟩, fun j d' ej a ha => ?_⟩
  · rcases key j d' ej with ⟨rfl, rfl, hl⟩ | ⟨hj, ej'⟩
    · refine ⟨v, ?_, ?_⟩
      · rw [List.getElem?_set_self (by rw [← e.len]; exact hl)]
      · rw [mdAt_set hi, if_pos rfl, F_at]
        exact o
    · obtain ⟨w, e1, o1⟩ := e.at_ j d' ej'
      refine ⟨w, by rw [List.getElem?_set_ne (Ne.symm hj)]; exact e1, ?_⟩
      rw [mdAt_set hi, if_neg hj, F_off hj]
      exact o1
  · rcases key j d' ej with ⟨rfl, rfl, hl⟩ | ⟨hj, ej'⟩
    · rw [F_at]; exact hn
    · rw [F_off hj]; exact e.nd j d' ej'
  · rcases key j d1 e1 with ⟨rfl, rfl, hl⟩ | ⟨hj, ej⟩
    · rw [F_at] at ha
      rcases key k d2 e2 with ⟨z, _, _⟩ | ⟨hk, ek⟩
      · exact absurd z.symm hjk
      · rw [F_off hk]
        exact fun z => hd k d2 hk ek a z ha
    · rw [F_off hj] at ha
      rcases key k d2 e2 with ⟨rfl, _, _⟩ | ⟨hk, ek⟩
      · rw [F_at]
        exact hd j d1 hj ej a ha
      · rw [F_off hk]
        exact e.apart j k d1 d2 hjk ej ek a ha
  · rcases key j d' ej with ⟨rfl, rfl, hl⟩ | ⟨hj, ej'⟩
    · rw [F_at] at ha; exact hf a ha
    · rw [F_off hj] at ha; exact nw j d' ej' a ha
end
end Da
namespace Da
open PySem PySem.Spec L2
structure JS (X : Cx) (E : WX) (L : Lp) (m m' : Mds) (st : Stmt) (F : FS) : Prop where
  ps : PS X st (tS X.K X.mg E L m m' F)
structure JSs (X : Cx) (E : WX) (L : Lp) (m m' : Mds) (st : List Stmt) (F : FS) : Prop where
  ps : PSs X st (tS X.K X.mg E L m m' F)
def fNext : FS := fun ρ => .ok (.nx ρ)
def fSeq (F G : FS) : FS := fun ρ => match F ρ with
  | .ok (.nx ρ') => G ρ'
  | o => o
def fSet (i : Nat) (f : Env → Res D) : FS := fun ρ => lift (f ρ) ρ fun d => .ok (.nx (ρ.set i (some d)))
def fRet (f : Env → Res D) : FS := fun ρ => lift (f ρ) ρ fun d => .ok (.rt d)
def fRetN : FS := fun _ => .ok (.rt .non)
def fIfS (c : Env → Res Bool) (F G : FS) : FS := fun ρ => lift (c ρ) ρ fun b => if b = true then F ρ else G ρ
def fDrop (f : Env → Res D) : FS := fun ρ => lift (f ρ) ρ fun _ => .ok (.nx ρ)
def fBrk : FS := fun ρ => .ok (.bk ρ)
def fCnt : FS := fun ρ => .ok (.ct ρ)
section
variable {K : PySem.W.Frag} {mg : Str → Option Value} {m m1 m2 : Mds} {S0 H0 S S1 S' H H' H1 : Hp} {σ σ' : L2.St} {ρ : Env} {F : Nat → List Addr} {E : WX} {L : Lp} {Dn : Ends} {α : Type}
/-- an expression in a statement -/
theorem lift_post {r : Res α} {k : α → Res Fl} (h : StF K mg m S0 H0 S F σ ρ H) (p : SPost K mg E L S0 H0 m2 (lift r ρ k) Dn) : PostW K mg (WE E σ) S H r fun a S1 H1 => SPost K mg E L S0 H0 m2 (k a) Dn := by
  cases r with
  | ok a => exact fun S1 H1 s1 => p
  | ex c fs =>
    intro S1 H1 cls dd s1 x
    obtain ⟨S2, F2, h2, ss⟩ := (h.step s1).weak (Weak.nil m)
    refine p σ S2 F2 H1 cls dd h2 ⟨x.1, ?_⟩
    rcases x.2 with z | ⟨a, vfs, e1, e2, e3, e4⟩
    · exact .inl z
    · exact .inr ⟨a, vfs, e1, ss _ _ e2, e3, e4.mono ss⟩
  | er => exact p.elim
theorem StF.stM (h : StF K mg m S0 H0 S F σ ρ H) : StM K mg m S0 H0 σ ρ H := ⟨S, F, h⟩
/-- what is handed out of a pure expression -/
theorem RetOk.of {md : Md} {fp : List Addr} {v : V} {d : D} (st : Step S0 H0 S H) (s : Step S H S1 H1) (o : OwnAt K mg S1 H1 fp v d md) (hn : fp.Nodup) (hf : ∀ a, a ∈ fp → H a = none) : RetOk K mg S0 H0 md d v H1 :=
  ⟨S1, fp, st.trans s, o, hn, fun a ha => st.hh.free (hf a ha)⟩
end
section
variable {X : Cx} {E : WX} {L : Lp} {m m1 m2 m' : Mds} {md : Md} {st : Stmt} {sts rest : List Stmt} {e a b : Expr} {f fa fb : Env → Res D} {c : Expr} {g : Env → Res Bool} {F G : FS} {pos : Pos} {x : Str}
theorem PSsimp {t t' : TS} (h : PSs X sts t) (k : ∀ D σ H, t' D σ H → t D σ H) : PSs X sts t' := ⟨fun pins s σ H D I q => h.run pins s σ H D I (k D σ H q)⟩
theorem PSimp {t t' : TS} (h : PS X st t) (k : ∀ D σ H, t' D σ H → t D σ H) : PS X st t' := ⟨fun pins s σ H D I q => h.run pins s σ H D I (k D σ H q)⟩
theorem js_nil : JSs X E L m m [] fNext := ⟨PSsimp pss_nil fun D σ H h => by
  obtain ⟨S0, H0, ρ, st, p⟩ := h
  exact p σ H st⟩
theorem seq_ok {K : PySem.W.Frag} {mg : Str → Option Value} {D : Ends} {σ : L2.St} {H : Hp} (h : tS K mg E L m m2 (fSeq F G) D σ H) : tSeq (tS K mg E L m m1 F) (tS K mg E L m1 m2 G) D σ H := by
  obtain ⟨S0, H0, ρ, st, p⟩ := h
  refine ⟨S0, H0, ρ, st, ?_⟩
  unfold fSeq at p
  cases h : F ρ with
  | ok o =>
    rw [h] at p
    cases o with
    | nx ρ' => exact fun σ' H' st' => ⟨S0, H0, ρ', st', p⟩
    | rt d => exact p
    | bk ρ' => exact p
    | ct ρ' => exact p
    | xc c fs ρ' => exact p
  | ex c fs => rw [h] at p; exact p
  | er => rw [h] at p; exact p
theorem js_cons (h1 : JS X E L m m1 st F) (h2 : JSs X E L m1 m2 rest G) : JSs X E L m m2 (st :: rest) (fSeq F G) := ⟨PSsimp (pss_cons h1.ps h2.ps) fun D σ H h => seq_ok h⟩
theorem js_one (h1 : JS X E L m m1 st F) : JSs X E L m m1 [st] F := ⟨pss_one h1.ps⟩
theorem js_weak1 (h : JS X E L m1 m2 st F) (w : Weak m m1 := by first | exact Weak.of (by decide) | exact weak_sh _ | (repeat (first | exact Weak.refl _ | exact weak_sh _ | apply Weak.cons | apply Weak.consSh))) : JS X E L m m2 st F := ⟨PSimp h.ps fun D σ H q => by
  obtain ⟨S0, H0, ρ, st, p⟩ := q
  exact ⟨S0, H0, ρ, st.weak w, p⟩⟩
theorem SPost.weak {K : PySem.W.Frag} {mg : Str → Option Value} {S0 H0 : Hp} {o : Res Fl} {Dn : Ends} (w : Weak m1 m2) (p : SPost K mg E L S0 H0 m2 o Dn) : SPost K mg E L S0 H0 m1 o Dn := by
  cases o with
  | ok o =>
    cases o with
    | nx ρ' => exact fun σ' H' st' => p σ' H' (st'.weak w)
    | rt d => exact p
    | bk ρ' => exact p
    | ct ρ' => exact p
    | xc c fs ρ' => exact p
  | ex c fs => exact p
  | er => exact p
/-- .. behind a block -/
theorem js_end (h : JSs X E L m m1 sts F) (w : Weak m1 m2 := by first | exact Weak.of (by decide) | exact weak_sh _ | (repeat (first | exact Weak.refl _ | exact weak_sh _ | apply Weak.cons | apply Weak.consSh))) : JSs X E L m m2 sts F := ⟨PSsimp h.ps fun D σ H q => by
  obtain ⟨S0, H0, ρ, st, p⟩ := q
  exact ⟨S0, H0, ρ, st, p.weak w⟩⟩
theorem js_set (i : Nat) {pos' : Pos} (he : JE X E m md e f) (hN : X.N.Nodup) (hl : i < m.length := by first | decide | simp) (hi : X.N[i]? = some x := by rfl) (hx : Loc X.env.scope x := by first | exact Or.inl rfl | exact Or.inr rfl)
    (hs : swapsWith e (some (.Name x pos')) pos.line X.env = pure false := by rfl) (hf : X.fn x = true ∨ X.env.scope.names.lookup x = some .local := by first | exact .inl rfl | exact .inr rfl) :
    JS X E L m (m.set i md) (.Assign [.Name x pos'] e pos) (fSet i f) := by
  refine ⟨PSimp (ps_set hN hi hx he.pe hs hf) fun D σ H h => ?_⟩
  obtain ⟨S0, H0, ρ, ⟨S, Fp, st⟩, p⟩ := h
  refine ⟨S, ρ, st.envM, (lift_post st p).postM fun d v S1 H1 fp s1 o hn hf k => ?_⟩
  refine k _ _ (StF.stM ((st.step s1).set hl o hn (fun a ha => st.1.hh.free (hf a ha)) fun j e' hj ej a ha z => ?_))
  obtain ⟨w, _, o'⟩ := st.2.1.at_ j e' ej
  obtain ⟨_, u, hu⟩ := o'.out ha
  rw [hf a z] at hu
  cases hu
theorem js_ret (he : JE X E m L.md e f) : JS X E L m m' (.Return (some e) pos) (fRet f) := by
  refine ⟨PSimp (ps_ret he.pe) fun D σ H h => ?_⟩
  obtain ⟨S0, H0, ρ, ⟨S, Fp, st⟩, p⟩ := h
  refine ⟨S, ρ, st.envM, (lift_post st p).postM fun d v S1 H1 fp s1 o hn hf k => ?_⟩
  exact k v H1 (RetOk.of st.1 s1 o hn hf)
/-- an own thing is handed out -/
theorem js_retV (i : Nat) (hmd : mdAt m i = L.md := by rfl) (hN : X.N[i]? = some x := by rfl) (hv : Vis X.env.scope x := by first | exact Or.inl rfl | exact Or.inr (Or.inl rfl) | exact Or.inr (Or.inr rfl)) {p : Pos}
    (hd : (x == ("__debug__" : Str)) = false := by decide) (hcd : (x == ("__classdict__" : Str)) = false := by decide) : JS X E L m m' (.Return (some (.Name x p)) pos) (fRet (fV i)) := by
  refine ⟨PSimp (ps_ret (pe_var hN hv hd hcd)) fun D σ H h => ?_⟩
  obtain ⟨S0, H0, ρ, ⟨S, Fp, st⟩, p⟩ := h
  unfold fRet fV at p
  split at p
  · rename_i d e
    obtain ⟨v, e1, o⟩ := st.2.1.at_ i d e
    rw [hmd] at o
    exact ⟨v, e1, p v H ⟨S, _, st.1, o, st.2.1.nd i d e, st.2.2 i d e⟩⟩
  · exact p.elim
theorem js_if (hc : JT X E m c g) (ha : JSs X E L m m' sts F) (hb : JSs X E L m m' rest G) : JS X E L m m' (.If c sts rest pos) (fIfS g F G) := by
  refine ⟨PSimp (ps_if hc.pt ha.ps hb.ps) fun D σ H h => ?_⟩
  obtain ⟨S0, H0, ρ, ⟨S, Fp, st⟩, p⟩ := h
  refine ⟨S, ρ, st.envM, ?_⟩
  have k := lift_post st p
  cases hg : g ρ with
  | ok bb =>
    rw [hg] at k
    intro S1 H1 s1
    have k1 := k S1 H1 s1
    cases bb with
    | true => exact ⟨S0, H0, ρ, (st.step s1).stM, k1⟩
    | false => exact ⟨S0, H0, ρ, (st.step s1).stM, k1⟩
  | ex c' fs => rw [hg] at k; exact k
  | er => rw [hg] at k; exact k
theorem js_break (w : Weak m L.mb := by first | exact Weak.of (by decide) | exact weak_sh _ | (repeat (first | exact Weak.refl _ | exact weak_sh _ | apply Weak.cons | apply Weak.consSh))) : JS X E L m m' (.Break pos) fBrk := ⟨PSimp ps_break fun D σ H h => by
  obtain ⟨S0, H0, ρ, st, p⟩ := h
  exact p σ H (st.weak w)⟩
theorem set_sh {m : Mds} {i : Nat} (hl : i < m.length) (hmd : mdAt m i = .sh) : m.set i .sh = m := by
  refine List.ext_getElem? fun j => ?_
  rw [List.getElem?_set]
  unfold mdAt at hmd
  rw [List.getD_eq_getElem?_getD, List.getElem?_eq_getElem hl] at hmd
  split
  · rename_i hj
    subst hj
    rw [List.getElem?_eq_getElem hl]
    exact congrArg some hmd.symm
  · rfl
/-- x += e of whole numbers -/
def fAug (i : Nat) (g : D → D → Res D) (f : Env → Res D) : FS := fSet i (f2 g (fV i) f)
def fApp (i : Nat) (f : Env → Res D) : FS := fun ρ => match ρ[i]? with
  | some (some (.lst xs)) => lift (f ρ) ρ fun d => if szOk (xs.length + 1) = true then .ok (.nx (ρ.set i (some (.lst (xs ++ [d]))))) else .er
  | _ => .er
theorem szOk_lt {n : Nat} (h : szOk (n + 1) = true) : n < sizeLine := by
  have := szOk_le h
  rw [sizeLine_eq]; omega
/-- an own list, at a known place or not -/
def IsOw (md : Md) : Prop := md = .ow ∨ ∃ q, md = .owq q
/-- the list of slot i is written -/
theorem StF.write {K : PySem.W.Frag} {mg : Str → Option Value} {S0 H0 S H : Hp} {Fp : Nat → List Addr} {σ : L2.St} {ρ : Env} {i : Nat} {xs ys : List D} {vs ws : List V} {p : Addr} (st : StF K mg m S0 H0 S Fp σ ρ H) (hl : i < m.length) (hmd : IsOw (mdAt m i)) (hρ : ρ[i]? = some (some (.lst xs)))
    (hp : Fp i = [p]) (hσ : σ[i]? = some (some (.ref p))) (sp : S p = none) (hv : H p = some (.lst vs)) (r : RepL K mg S ws ys) : StF K mg m S0 H0 S Fp σ (ρ.set i (some (.lst ys))) (upd H p (.lst ws)) := by
  obtain ⟨s, e, nw⟩ := st
  have hil : i < ρ.length := (List.getElem?_eq_some_iff.mp hρ).1
  have h0 : H0 p = none := nw i _ hρ p (by rw [hp]; exact List.mem_cons_self)
  have key : ∀ j d', (ρ.set i (some (.lst ys)))[j]? = some (some d') → (j = i ∧ d' = .lst ys) ∨ (j ≠ i ∧ ρ[j]? = some (some d')) := fun j d' ej => by
    by_cases hj : j = i
    · subst hj
      rw [List.getElem?_set_self hil] at ej
      injection ej with z; injection z with z
      exact .inl ⟨rfl, z.symm⟩
    · rw [List.getElem?_set_ne (Ne.symm hj)] at ej
      exact .inr ⟨hj, ej⟩
  have same : ∀ {B : Hp}, Same B H → B p = none → Same B (upd H p (.lst ws)) := fun hB hb a o ea => by
    rw [upd_ne (ne_of_none ea hb)]
    exact hB a o ea
  have pres : ∀ {d}, ρ[i]? = some (some d) ↔ d = .lst xs := fun {d} => by
    rw [hρ]
    constructor
    · intro z; injection z with z; injection z with z; exact z.symm
    · intro z; rw [z]
  refine ⟨⟨same s.hh h0, s.ss, same s.sub sp, s.new⟩, ⟨by rw [List.length_set]; exact e.len, fun j d' ej => ?_, fun j d' ej => ?_, fun j k d1 d2 hjk e1 e2 => ?_⟩, fun j d' ej => ?_⟩
  · rcases key j d' ej with ⟨rfl, rfl⟩ | ⟨hj, ej'⟩
    · refine ⟨_, hσ, ?_⟩
      rcases hmd with hmd | ⟨q, hmd⟩
      · rw [hmd]
        exact ⟨p, ws, ys, rfl, rfl, hp, sp, upd_same, r⟩
      · obtain ⟨w, e1, o1⟩ := e.at_ j _ hρ
        rw [hmd] at o1 ⊢
        rw [hσ] at e1
        cases e1
        exact ⟨o1.1, p, ws, ys, rfl, rfl, hp, sp, upd_same, r⟩
    · obtain ⟨w, e1, o1⟩ := e.at_ j d' ej'
      exact ⟨w, e1, o1.other sp fun z => e.apart i j _ d' (Ne.symm hj) hρ ej' p (by rw [hp]; exact List.mem_cons_self) z⟩
  · rcases key j d' ej with ⟨rfl, rfl⟩ | ⟨hj, ej'⟩
    · exact e.nd _ _ hρ
    · exact e.nd j d' ej'
  · have live : ∀ j d', (ρ.set i (some (.lst ys)))[j]? = some (some d') → ∃ d'', ρ[j]? = some (some d'') := fun j d' ej => by
      rcases key j d' ej with ⟨rfl, _⟩ | ⟨_, ej'⟩
      · exact ⟨_, hρ⟩
      · exact ⟨_, ej'⟩
    obtain ⟨d1', h1⟩ := live j d1 e1
    obtain ⟨d2', h2⟩ := live k d2 e2
    exact e.apart j k d1' d2' hjk h1 h2
  · rcases key j d' ej with ⟨rfl, rfl⟩ | ⟨hj, ej'⟩
    · exact nw _ _ hρ
    · exact nw j d' ej'
/-- what is known of an own list -/
theorem StF.own {K : PySem.W.Frag} {mg : Str → Option Value} {S0 H0 S H : Hp} {Fp : Nat → List Addr} {σ : L2.St} {ρ : Env} {i : Nat} {d : D} (st : StF K mg m S0 H0 S Fp σ ρ H) (hmd : IsOw (mdAt m i)) (hρ : ρ[i]? = some (some d)) :
    ∃ p vs ds, d = .lst ds ∧ Fp i = [p] ∧ σ[i]? = some (some (.ref p)) ∧ S p = none ∧ H p = some (.lst vs) ∧ RepL K mg S vs ds := by
  obtain ⟨v, e1, o⟩ := st.2.1.at_ i d hρ
  rcases hmd with hmd | ⟨q, hmd⟩
  · rw [hmd] at o
    obtain ⟨p, vs, ds, rfl, rfl, e3, e4, e5, e6⟩ := o
    exact ⟨p, vs, ds, rfl, e3, e1, e4, e5, e6⟩
  · rw [hmd] at o
    obtain ⟨e0, p, vs, ds, rfl, rfl, e3, e4, e5, e6⟩ := o
    exact ⟨p, vs, ds, rfl, e3, e1, e4, e5, e6⟩
theorem js_app (i : Nat) {p1 p2 p3 : Pos} (he : JE X E m .sh e f) (hmd : IsOw (mdAt m i) := by first | exact .inl rfl | exact .inr ⟨_, rfl⟩) (hl : i < m.length := by first | decide | simp) (hN : X.N[i]? = some x := by rfl) (hv : Vis X.env.scope x := by first | exact Or.inl rfl | exact Or.inr (Or.inl rfl) | exact Or.inr (Or.inr rfl))
    (hd : (x == ("__debug__" : Str)) = false := by decide) (hcd : (x == ("__classdict__" : Str)) = false := by decide)
    (hs : swapsWith (.Call (.Attribute (.Name x p1) "append" p2) [e] [] p3) none pos.line X.env = pure false := by rfl)
    (hpe : ∀ {to te : TE}, PE X (.Name x p1) to → PE X e te → PE X (.Call (.Attribute (.Name x p1) "append" p2) [e] [] p3) (tBM X.K "list" rAppend to (tCons te tNil)) := by
      intro to te ho he
      exact pe_bm PySem.F.plainAttrs_list PySem.F.slot_list_append PySem.F.type_list_append mt_append ho (pa_cons he pa_nil)) :
    JS X E L m m (.Expr (.Call (.Attribute (.Name x p1) "append" p2) [e] [] p3) pos) (fApp i f) := by
  refine ⟨PSimp (ps_expr (hpe (pe_var hN hv hd hcd) he.pe) hs) fun D σ H h => ?_⟩
  obtain ⟨S0, H0, ρ, ⟨S, Fp, st⟩, p⟩ := h
  unfold fApp at p
  split at p
  · rename_i xs exs
    obtain ⟨pa, vs, ds, eds, e1, e2, e3, e4, e5⟩ := st.own hmd exs
    cases eds
    refine ⟨_, e2, .inl ⟨rfl, vs, .inl (.inl e4)⟩, S, ρ, st.envM, (lift_post st p).post fun d v S1 H1 s1 r k => ?_⟩
    split at k
    · rename_i hz
      obtain ⟨qa, vs1, ds1, eds, q1, q2, q3, q4, q5⟩ := (st.step s1).own hmd exs
      cases eds
      obtain rfl : qa = pa := by
        rw [e2] at q2
        injection q2 with z; injection z with z; injection z with z
        exact z.symm
      refine ⟨qa, vs1, v, rfl, rfl, q4, by rw [q5.len]; exact szOk_lt hz, ?_⟩
      exact k _ _ ((st.step s1).write hl hmd exs q1 q2 q3 q4 (q5.snoc r)).stM
    · exact k.elim
  · exact p.elim
/-- x[j] = e of an own list -/
def fSetIx (i : Nat) (fe fj : Env → Res D) : FS := fun ρ => match ρ[i]? with
  | some (some (.lst xs)) => lift (fe ρ) ρ fun d => lift (fj ρ) ρ fun j => match j with
    | .int z => (match ixN xs.length z with
      | some k => .ok (.nx (ρ.set i (some (.lst (xs.set k d)))))
      | none => .er)
    | _ => .er
  | _ => .er
theorem js_setix (i : Nat) {p1 p2 : Pos} {j : Expr} {fj : Env → Res D} (he : JE X E m .sh e f) (hj : JE X E m .sh j fj) (hmd : IsOw (mdAt m i) := by first | exact .inl rfl | exact .inr ⟨_, rfl⟩) (hl : i < m.length := by first | decide | simp) (hN : X.N[i]? = some x := by rfl) (hv : Vis X.env.scope x := by first | exact Or.inl rfl | exact Or.inr (Or.inl rfl) | exact Or.inr (Or.inr rfl))
    (hd : (x == ("__debug__" : Str)) = false := by decide) (hcd : (x == ("__classdict__" : Str)) = false := by decide)
    (hps : ∀ {to ti te : TE}, PE X (.Name x p1) to → PE X j ti → PE X e te → PS X (.Assign [.Subscript (.Name x p1) j p2] e pos) (tAsg te (gSub to ti rSetL)) := by
      intro to ti te ho hi he
      exact ps_asg he (pg_sub ho hi set_list)) :
    JS X E L m m (.Assign [.Subscript (.Name x p1) j p2] e pos) (fSetIx i f fj) := by
  refine ⟨PSimp (hps (pe_var hN hv hd hcd) hj.pe he.pe) fun D σ H h => ?_⟩
  obtain ⟨S0, H0, ρ, ⟨S, Fp, st⟩, p⟩ := h
  unfold fSetIx at p
  split at p
  · rename_i xs exs
    obtain ⟨pa, vs, ds, eds, e1, e2, e3, e4, e5⟩ := st.own hmd exs
    refine ⟨S, ρ, st.envM, (lift_post st p).post fun d v S1 H1 s1 r k => ⟨_, e2, S1, ρ, (st.step s1).envM, (lift_post (st.step s1) k).post fun dj vj S2 H2 s2 rj k2 => ?_⟩⟩
    cases dj with
    | int z =>
      cases rj
      have k2 : SPost X.K X.mg E L S0 H0 m (match ixN xs.length z with
        | some k => .ok (.nx (ρ.set i (some (.lst (xs.set k d)))))
        | none => .er) D := k2
      split at k2
      · rename_i kk ek
        obtain ⟨qa, vs1, ds1, eds1, q1, q2, q3, q4, q5⟩ := ((st.step s1).step s2).own hmd exs
        cases eds1
        obtain rfl : qa = pa := by
          rw [e2] at q2
          injection q2 with z; injection z with z; injection z with z
          exact z.symm
        exact ⟨qa, vs1, z, kk, rfl, rfl, q4, by rw [q5.len]; exact ek, k2 _ _ (((st.step s1).step s2).write hl hmd exs q1 q2 q3 q4 (q5.set kk (r.mono s2.ss))).stM⟩
      · exact k2.elim
    | _ => exact k2.elim
  · exact p.elim
end
end Da
namespace Da
open PySem PySem.Spec L2
/-- the loop over the items -/
def forGo (g : D → Env → Res Env) (F : FS) : List D → FS
  | [], ρ => .ok (.nx ρ)
  | x :: xs, ρ => match g x ρ with
    | .ok ρ1 => (match F ρ1 with
      | .ok (.nx ρ2) => forGo g F xs ρ2
      | .ok (.ct ρ2) => forGo g F xs ρ2
      | .ok (.bk ρ2) => .ok (.nx ρ2)
      | o => o)
    | _ => .er
def fFor (it : Env → Res (List D)) (g : D → Env → Res Env) (F : FS) : FS := fun ρ => lift (it ρ) ρ fun xs => forGo g F xs ρ
/-- while, in at most n turns -/
def whileGo (c : Env → Res Bool) (F : FS) : Nat → FS
  | 0, _ => .er
  | n + 1, ρ => lift (c ρ) ρ fun b => if b = true then (match F ρ with
      | .ok (.nx ρ2) => whileGo c F n ρ2
      | .ok (.ct ρ2) => whileGo c F n ρ2
      | .ok (.bk ρ2) => .ok (.nx ρ2)
      | o => o) else .ok (.nx ρ)
def FUEL : Nat := 1000000000000000000
def fWhile (c : Env → Res Bool) (F : FS) : FS := whileGo c F FUEL
/-- the iterator J gives the items ds, from the view S on -/
structure WalkD (K : PySem.W.Frag) (mg : Str → Option Value) (J : It) (S : Hp) (ds : List D) : Prop where
  go : ∀ i d S1 H1, ds[i]? = some d → Same S S1 → Same S1 H1 → J.go i H1 ∧ ∀ x H2, J.yld i H1 x H2 → ∃ S2, Step S1 H1 S2 H2 ∧ Rep K mg S2 x d
  stop : ∀ S1 H1, Same S S1 → Same S1 H1 → J.stop ds.length H1
def tI (K : PySem.W.Frag) (mg : Str → Option Value) (E : WX) (m : Mds) (f : Env → Res (List D)) : TI := fun σ H R => ∃ S ρ, EnvM K mg m S H σ ρ ∧ PostW K mg (WE E σ) S H (f ρ) fun ds S' H' => ∀ J, WalkD K mg J S' ds → R J H'
structure JI (X : Cx) (E : WX) (m : Mds) (tg iter : Expr) (f : Env → Res (List D)) : Prop where
  pi : PI X tg iter (tI X.K X.mg E m f)
/-- a target takes a value -/
def tGD (K : PySem.W.Frag) (mg : Str → Option Value) (m : Mds) (ts : List Nat) (g : D → Env → Res Env) : TG := fun v σ H Q => ∃ S0 H0 S F ρ d, StF K mg m S0 H0 S F σ ρ H ∧ Rep K mg S v d ∧ (match g d ρ with
  | .ok ρ1 => ∀ σ1 S1 F1 H1, StF K mg m S0 H0 S1 F1 σ1 ρ1 H1 → Step S H S1 H1 → (σ1.length = σ.length ∧ ∀ j, j ∉ ts → σ1[j]? = σ[j]?) → Q σ1 H1
  | _ => False)
structure JG (X : Cx) (m : Mds) (ts : List Nat) (tg : Expr) (g : D → Env → Res Env) : Prop where
  pg : PG X tg (tGD X.K X.mg m ts g)
section
variable {X : Cx} {E : WX} {L : Lp} {m m1 m2 m' : Mds} {md : Md} {st : Stmt} {sts rest : List Stmt} {e a b tg iter : Expr} {f fa fb : Env → Res D} {c : Expr} {g : Env → Res Bool} {F G : FS} {pos : Pos} {x : Str} {it : Env → Res (List D)} {gt : D → Env → Res Env}
/-- a name: what it holds is shared -/
def gN (i : Nat) : D → Env → Res Env := fun d ρ => .ok (ρ.set i (some d))
theorem jg_name (i : Nat) (hN : X.N.Nodup) (hmd : mdAt m i = .sh := by rfl) (hl : i < m.length := by first | decide | simp) (hi : X.N[i]? = some x := by rfl) (hx : Loc X.env.scope x := by first | exact Or.inl rfl | exact Or.inr rfl)
    (hf : X.fn x = true ∨ X.env.scope.names.lookup x = some .local := by first | exact .inl rfl | exact .inr rfl) : JG X m [i] (.Name x pos) (gN i) := by
  refine ⟨⟨fun pins s σ H v u Q I r h => ?_⟩⟩
  refine (pg_name hN hi hx hf).run pins s σ H v u Q I r ?_
  obtain ⟨S0, H0, S, Fp, ρ, d, st, rd, p⟩ := h
  have st1 := st.set (d := d) (v := v) (md := .sh) (fp := []) hl ⟨rd, rfl⟩ List.nodup_nil (fun a z => nomatch z) (fun j e' hj ej a ha z => nomatch z)
  rw [set_sh hl hmd] at st1
  exact p _ S _ H st1 (Step.refl st.1.sub) ⟨List.length_set, fun j hj => List.getElem?_set_ne fun z => hj (by rw [z]; exact List.mem_cons_self)⟩
theorem js_for (hi : JI X E m tg iter it) {ts : List Nat} (hg : JG X m ts tg gt) (hb : JSs X E ⟨m, m, L.md⟩ m m sts F) (hp : PassesOwn (model X.prog X.w) X.A X.env X.xe) (hc : X.calm = true := by rfl)
    (hs : ∀ x, foldedSetIterable iter X.env x = pure x := by intro _; rfl) : JS X E L m m (.For tg iter sts [] pos) (fFor it gt F) := by
  refine ⟨PSimp (ps_for hp hc hi.pi hg.pg hb.ps hs) fun D σ H h => ?_⟩
  obtain ⟨S0, H0, ρ, ⟨S, Fp, st⟩, p⟩ := h
  refine ⟨S, ρ, st.envM, (lift_post st p).imp fun ds S1 H1 s1 k J w => ?_⟩
  -- from here on the entry is (S1, H0)
  have st1 := st.step s1
  refine ⟨fun i n σ H => n = ds.length - i ∧ i ≤ ds.length ∧ ∃ S2 F2 ρ2, StF X.K X.mg m S1 H0 S2 F2 σ ρ2 H ∧ SPost X.K X.mg E L S0 H0 m (forGo gt F (ds.drop i) ρ2) D, ⟨ds.length, by simp, Nat.zero_le _, S1, Fp, ρ, ⟨st1.1.fwd, st1.2⟩, k⟩, ?_⟩
  rintro i n σ2 H2 ⟨rfl, hi, S2, F2, ρ2, st2, p2⟩
  by_cases hlt : i < ds.length
  · obtain ⟨hgo, hyl⟩ := w.go i ds[i] S2 H2 (List.getElem?_eq_getElem hlt) st2.1.ss st2.1.sub
    refine .inr ⟨hgo, fun σ' H' => ∃ S3 F3 ρ3, StF X.K X.mg m S1 H0 S3 F3 σ' ρ3 H' ∧ SPost X.K X.mg E L S0 H0 m (forGo gt F (ds.drop (i + 1)) ρ3) D, fun σ' H' z => ⟨ds.length - (i + 1), by omega, rfl, hlt, z⟩, fun x H3 y => ?_⟩
    obtain ⟨S3, s3, r3⟩ := hyl x H3 y
    refine ⟨S1, H0, S3, F2, ρ2, ds[i], st2.step s3, r3, ?_⟩
    rw [List.drop_eq_getElem_cons hlt] at p2
    unfold forGo at p2
    cases eg : gt ds[i] ρ2 with
    | ok ρ3 =>
      rw [eg] at p2
      refine fun σ4 S4 F4 H4 st4 s4 _ => ⟨S1, H0, ρ3, st4.stM, ?_⟩
      have p3 : SPost X.K X.mg E L S0 H0 m (match F ρ3 with
        | .ok (.nx ρ2) => forGo gt F (ds.drop (i + 1)) ρ2
        | .ok (.ct ρ2) => forGo gt F (ds.drop (i + 1)) ρ2
        | .ok (.bk ρ2) => .ok (.nx ρ2)
        | o => o) D := p2
      cases ef : F ρ3 with
      | ok o =>
        rw [ef] at p3
        cases o with
        | nx ρ5 => exact fun σ5 H5 ⟨S5, F5, st5⟩ => ⟨S5, F5, ρ5, st5, p3⟩
        | ct ρ5 => exact fun σ5 H5 ⟨S5, F5, st5⟩ => ⟨S5, F5, ρ5, st5, p3⟩
        | bk ρ5 => exact fun σ5 H5 ⟨S5, F5, st5⟩ => p3 σ5 H5 ⟨S5, F5, st1.1.back st5.1, st5.2⟩
        | rt d => exact fun v H5 ⟨S5, fp, s5, o5⟩ => p3 v H5 ⟨S5, fp, st1.1.back s5, o5⟩
        | xc c' fs ρ5 => exact fun σ5 S5 F5 H5 cls dd st5 x5 => p3 σ5 S5 F5 H5 cls dd ⟨st1.1.back st5.1, st5.2⟩ x5
      | ex c' fs => rw [ef] at p3; exact p3
      | er => rw [ef] at p3; exact p3
    | ex c' fs => rw [eg] at p2; exact p2
    | er => rw [eg] at p2; exact p2
  · have e : i = ds.length := by omega
    subst e
    rw [List.drop_length] at p2
    exact .inl ⟨w.stop S2 H2 st2.1.ss st2.1.sub, p2 σ2 H2 ⟨S2, F2, st1.1.back st2.1, st2.2⟩⟩
theorem js_while (hc : JT X E m c g) (hb : JSs X E ⟨m, m, L.md⟩ m m sts F) (hp : PassesOwn (model X.prog X.w) X.A X.env X.xe) : JS X E L m m (.While c sts [] pos) (fWhile g F) := by
  refine ⟨PSimp (ps_while hp hc.pt hb.ps) fun D σ H h => ?_⟩
  obtain ⟨S0, H0, ρ, ⟨S, Fp, st⟩, p⟩ := h
  refine ⟨fun n σ H => ∃ S2 F2 ρ2, StF X.K X.mg m S0 H0 S2 F2 σ ρ2 H ∧ SPost X.K X.mg E L S0 H0 m (whileGo g F n ρ2) D, ⟨FUEL, S, Fp, ρ, st, p⟩, ?_⟩
  rintro n σ2 H2 ⟨S2, F2, ρ2, st2, p2⟩
  cases n with
  | zero => exact p2.elim
  | succ n =>
    unfold whileGo at p2
    have k := lift_post st2 p2
    refine ⟨S2, ρ2, st2.envM, k.imp fun b S3 H3 s3 k3 => ?_⟩
    cases b with
    | true =>
      refine ⟨fun σ' H' => ∃ S3 F3 ρ3, StF X.K X.mg m S0 H0 S3 F3 σ' ρ3 H' ∧ SPost X.K X.mg E L S0 H0 m (whileGo g F n ρ3) D, fun σ' H' z => ⟨n, Nat.lt_succ_self n, z⟩, S0, H0, ρ2, (st2.step s3).stM, ?_⟩
      have p3 : SPost X.K X.mg E L S0 H0 m (match F ρ2 with
        | .ok (.nx ρ2) => whileGo g F n ρ2
        | .ok (.ct ρ2) => whileGo g F n ρ2
        | .ok (.bk ρ2) => .ok (.nx ρ2)
        | o => o) D := k3
      cases ef : F ρ2 with
      | ok o =>
        rw [ef] at p3
        cases o with
        | nx ρ5 => exact fun σ5 H5 ⟨S5, F5, st5⟩ => ⟨S5, F5, ρ5, st5, p3⟩
        | ct ρ5 => exact fun σ5 H5 ⟨S5, F5, st5⟩ => ⟨S5, F5, ρ5, st5, p3⟩
        | bk ρ5 => exact p3
        | rt d => exact p3
        | xc c' fs ρ5 => exact p3
      | ex c' fs => rw [ef] at p3; exact p3
      | er => rw [ef] at p3; exact p3
    | false => exact k3 σ2 H3 (st2.step s3).stM
def asL : D → Res (List D)
  | .lst xs => .ok xs
  | .frl xs => .ok xs
  | .tup xs => .ok xs
  | _ => .er
theorem walk_l {K : PySem.W.Frag} {mg : Str → Option Value} {S : Hp} {a : Addr} {vs : List V} {ds : List D} (h : SqL K S a vs) (r : RepL K mg S vs ds) : WalkD K mg (Itl K a) S ds where
  go := fun i d S1 H1 e s1 s2 => by
    obtain ⟨v, ev, rv⟩ := r.get e
    refine ⟨⟨vs, v, same_l s2 (same_l s1 h), ev⟩, fun x H2 ⟨e2, y⟩ => ?_⟩
    subst e2
    have := y vs (same_l s2 (same_l s1 h))
    rw [ev] at this
    cases this
    exact ⟨S1, Step.refl s2, rv.mono s1⟩
  stop := fun S1 H1 s1 s2 => ⟨vs, same_l s2 (same_l s1 h), Nat.le_of_eq r.len⟩
theorem walk_t {K : PySem.W.Frag} {mg : Str → Option Value} {S : Hp} {a : Addr} {vs : List V} {ds : List D} (h : SqT K S a vs) (r : RepL K mg S vs ds) : WalkD K mg (Itt K a) S ds where
  go := fun i d S1 H1 e s1 s2 => by
    obtain ⟨v, ev, rv⟩ := r.get e
    refine ⟨⟨vs, v, same_t s2 (same_t s1 h), ev⟩, fun x H2 ⟨e2, y⟩ => ?_⟩
    subst e2
    have := y vs (same_t s2 (same_t s1 h))
    rw [ev] at this
    cases this
    exact ⟨S1, Step.refl s2, rv.mono s1⟩
  stop := fun S1 H1 s1 s2 => ⟨vs, same_t s2 (same_t s1 h), Nat.le_of_eq r.len⟩
def iSeq (K : PySem.W.Frag) (tl : TE) : TI := fun σ H R => tl σ H fun x H1 => ∃ a, x = .ref a ∧ ((∃ xs, SqL K H1 a xs) ∧ R (Itl K a) H1 ∨ (∃ xs, SqT K H1 a xs) ∧ R (Itt K a) H1)
theorem pi_seq {l : Expr} {tl : TE} (hl : PE X l tl) : PI X tg l (iSeq X.K tl) := by
  refine ⟨fun pins s σ H R I h => thn (hl.run pins s σ H _ I h) fun v s1 hv => ?_⟩
  obtain ⟨y, Hy, Iy, ry, a, rfl, q⟩ := hv
  cases ry
  have fresh : ∀ b, b ∈ [s1.heap.objs.size] → FpOk X pins Hy b := fun b hb => by
    rw [List.mem_singleton.mp hb]
    exact Iy.fpOk (Nat.le_refl _) (Iy.hok.fresh (Nat.le_refl _))
  rcases q with ⟨⟨xs, hq⟩, q⟩ | ⟨⟨xs, hq⟩, q⟩
  · obtain ⟨its, _, pl, _⟩ := Iy.list hq
    refine wpAny_pyIter_list pl.isList ⟨_, [_], _, Itl X.K a, Hy, rfl, ?_, turn_list a _, ?_, fresh, q⟩
    · exact Iy.kept (t' := s1.toks) fun b o e => Heap.get?_push_of_some _ e
    · exact ⟨_, Heap.get?_push_size _ rfl, rfl, rfl⟩
  · obtain ⟨its, _, pl, _⟩ := Iy.tuple hq
    refine wpAny_pyIter_tuple (show s1.heap.IsTuple a its.toArray from pl) ⟨_, [_], _, Itt X.K a, Hy, rfl, ?_, turn_tuple a _, ?_, fresh, q⟩
    · exact Iy.kept (t' := s1.toks) fun b o e => Heap.get?_push_of_some _ e
    · exact ⟨_, Heap.get?_push_size _ rfl, rfl, rfl⟩
def fL (f : Env → Res D) : Env → Res (List D) := fun ρ => (f ρ).bind asL
theorem ji_seq (he : JE X E m .sh e f) : JI X E m tg e (fL f) := by
  refine ⟨⟨fun pins s σ H R I h => (pi_seq he.pe).run pins s σ H R I ?_⟩⟩
  obtain ⟨S, ρ, hm, hp⟩ := h
  refine ⟨S, ρ, hm, (PostW.bind hp).post fun d v S1 H1 s1 r k => ?_⟩
  cases d with
  | lst xs =>
    obtain ⟨a, vs, rfl, ha, rv⟩ := r.of_lst
    exact ⟨a, rfl, .inl ⟨⟨vs, .inl (.inl (s1.sub _ _ ha))⟩, k S1 H1 (Step.refl s1.sub) _ (walk_l (.inl (.inl ha)) rv)⟩⟩
  | frl xs =>
    obtain ⟨a, vs, rfl, ha, rv⟩ := r.of_frl
    exact ⟨a, rfl, .inl ⟨⟨vs, same_l s1.sub ha⟩, k S1 H1 (Step.refl s1.sub) _ (walk_l ha rv)⟩⟩
  | tup xs =>
    obtain ⟨a, vs, rfl, ha, rv⟩ := r.of_tup
    exact ⟨a, rfl, .inr ⟨⟨vs, same_t s1.sub ha⟩, k S1 H1 (Step.refl s1.sub) _ (walk_t ha rv)⟩⟩
  | _ => exact k.elim
def rng (lo : Int) (n : Nat) : List D := (List.range n).map fun (i : Nat) => D.int (lo + i)
theorem walk_r {K : PySem.W.Frag} {mg : Str → Option Value} {S : Hp} (lo : Int) (n : Nat) : WalkD K mg (Itr lo n) S (rng lo n) where
  go := fun i d S1 H1 e s1 s2 => by
    unfold rng at e
    rw [List.getElem?_map] at e
    have hi : i < n := by
      cases q : (List.range n)[i]? with
      | none => rw [q] at e; cases e
      | some j =>
        have := (List.getElem?_eq_some_iff.mp q).1
        rwa [List.length_range] at this
    rw [List.getElem?_range hi] at e
    cases e
    exact ⟨hi, fun x H2 ⟨e2, y⟩ => by subst e2 y; exact ⟨S1, Step.refl s2, .int _⟩⟩
  stop := fun S1 H1 s1 s2 => by
    show n ≤ (rng lo n).length
    unfold rng
    rw [List.length_map, List.length_range]
    exact Nat.le_refl _
def rngOk (i j : Int) : Bool := stuck (-(4611686018427387904) ≤ i ∧ i < 4611686018427387904 ∧ -(4611686018427387904) ≤ j ∧ j < 4611686018427387904)
theorem rngOk_ok {i j : Int} (h : rngOk i j = true) : -(2 ^ 62) ≤ i ∧ i < 2 ^ 62 ∧ -(2 ^ 62) ≤ j ∧ j < 2 ^ 62 := by
  obtain ⟨h1, h2, h3, h4⟩ := stuck_iff.mp h
  have e : (2 : Int) ^ 62 = 4611686018427387904 := by decide
  rw [e]
  exact ⟨h1, h2, h3, h4⟩
def gRng1 : List D → Res (List D)
  | [.int j] => if rngOk 0 j = true then .ok (rng 0 j.toNat) else .er
  | _ => .er
def gRng2 : List D → Res (List D)
  | [.int i, .int j] => if rngOk i j = true then .ok (rng i (j - i).toNat) else .er
  | _ => .er
theorem gRng1_ok {ds xs : List D} (h : gRng1 ds = .ok xs) : ∃ j, ds = [.int j] ∧ rngOk 0 j = true ∧ xs = rng 0 j.toNat := by
  unfold gRng1 at h
  split at h
  · rename_i j
    split at h
    · rename_i hk
      injection h with h
      exact ⟨j, rfl, hk, h.symm⟩
    · cases h
  · cases h
theorem gRng2_ok {ds xs : List D} (h : gRng2 ds = .ok xs) : ∃ i j, ds = [.int i, .int j] ∧ rngOk i j = true ∧ xs = rng i (j - i).toNat := by
  unfold gRng2 at h
  split at h
  · rename_i i j
    split at h
    · rename_i hk
      injection h with h
      exact ⟨i, j, rfl, hk, h.symm⟩
    · cases h
  · cases h
theorem gRng1_ex {ds : List D} {c : Str} {fs : List (Str × D)} : gRng1 ds ≠ .ex c fs := by
  unfold gRng1
  split
  · split <;> exact fun z => nomatch z
  · exact fun z => nomatch z
theorem gRng2_ex {ds : List D} {c : Str} {fs : List (Str × D)} : gRng2 ds ≠ .ex c fs := by
  unfold gRng2
  split
  · split <;> exact fun z => nomatch z
  · exact fun z => nomatch z
def fR1 (fs : Env → Res (List D)) : Env → Res (List D) := fun ρ => (fs ρ).bind gRng1
def fR2 (fs : Env → Res (List D)) : Env → Res (List D) := fun ρ => (fs ρ).bind gRng2
theorem PostW.of_if {α : Type} {K : PySem.W.Frag} {mg : Str → Option Value} {E : XK} {S H : Hp} {r : Res α} {c : Bool} {k : α → Hp → Hp → Prop} (h : PostW K mg E S H (if c = true then r else .er) k) : c = true ∧ PostW K mg E S H r k := by
  split at h
  · rename_i hc; exact ⟨hc, h⟩
  · exact h.elim
theorem RepL.int1 {K : PySem.W.Frag} {mg : Str → Option Value} {S : Hp} {vs : List V} {j : Int} (r : RepL K mg S vs [.int j]) : vs = [.int j] := RepL.ints (ns := [j]) r
theorem RepL.int2 {K : PySem.W.Frag} {mg : Str → Option Value} {S : Hp} {vs : List V} {i j : Int} (r : RepL K mg S vs [.int i, .int j]) : vs = [.int i, .int j] := RepL.ints (ns := [i, j]) r
theorem PostW.okOf {α : Type} {K : PySem.W.Frag} {mg : Str → Option Value} {E : XK} {S H : Hp} {r : Res α} {k : α → Hp → Hp → Prop} (h : PostW K mg E S H r k) (hx : ∀ c fs, r ≠ .ex c fs) : ∃ a, r = .ok a ∧ ∀ S' H', Step S H S' H' → k a S' H' := by
  cases r with
  | ok a => exact ⟨a, rfl, h⟩
  | ex c fs => exact absurd rfl (hx c fs)
  | er => exact h.elim
theorem ji_range1 {fs : Env → Res (List D)} {p : Pos} (ha : JA X E m [a] fs) (hm : X.mg "range" = none) (hg : Gl X "range" := by rfl) (hs : starEach [a] X.env = [(false, eval a X.env)] := by rfl) : JI X E m tg (.Call (.Name "range" p) [a] [] pos) (fR1 fs) := by
  refine ⟨⟨fun pins s σ H R I h => (pi_range1 hg hm ha.pa hs).run pins s σ H R I ?_⟩⟩
  obtain ⟨S, ρ, hm, hp⟩ := h
  refine ⟨S, ρ, hm, (PostW.bind hp).imp fun ds S1 H1 s1 k vs rv => ?_⟩
  obtain ⟨xs, e, k⟩ := PostW.okOf k fun _ _ => gRng1_ex
  obtain ⟨j, rfl, hk, rfl⟩ := gRng1_ok e
  obtain ⟨_, _, h3, h4⟩ := rngOk_ok hk
  exact ⟨j, rv.int1, h3, h4, k S1 H1 (Step.refl s1.sub) _ (walk_r 0 j.toNat)⟩
theorem ji_range2 {fs : Env → Res (List D)} {p : Pos} (ha : JA X E m [a, b] fs) (hm : X.mg "range" = none) (hg : Gl X "range" := by rfl) (hs : starEach [a, b] X.env = [(false, eval a X.env), (false, eval b X.env)] := by rfl) (hs2 : starEach [b] X.env = [(false, eval b X.env)] := by rfl) :
    JI X E m tg (.Call (.Name "range" p) [a, b] [] pos) (fR2 fs) := by
  refine ⟨⟨fun pins s σ H R I h => (pi_range2 hg hm ha.pa hs hs2).run pins s σ H R I ?_⟩⟩
  obtain ⟨S, ρ, hm, hp⟩ := h
  refine ⟨S, ρ, hm, (PostW.bind hp).imp fun ds S1 H1 s1 k vs rv => ?_⟩
  obtain ⟨xs, e, k⟩ := PostW.okOf k fun _ _ => gRng2_ex
  obtain ⟨i, j, rfl, hk, rfl⟩ := gRng2_ok e
  exact ⟨i, j, rv.int2, rngOk_ok hk, k S1 H1 (Step.refl s1.sub) _ (walk_r i (j - i).toNat)⟩
end
end Da
namespace Da
open PySem PySem.Spec L2
def chk (n : Nat) (f : List D → Res D) : List D → Res D := fun ds => if ds.length = n then f ds else .er
/-- what a def promises: it does to data what f does -/
def spD (K : PySem.W.Frag) (mg : Str → Option Value) (np : Nat) (md : Md) (f : List D → Res D) : Sp := fun vs H Q E => ∃ S ds, Same S H ∧ RepL K mg S vs ds ∧ Post K mg E S H md (chk np f ds) Q
def startE (n : Nat) (ds : List D) : Env := ds.map some ++ List.replicate (n - ds.length) none
/-- a body's run -/
def runF (n : Nat) (md : Md) (F : FS) (ds : List D) : Res D := match F (startE n ds) with
  | .ok (.rt d) => .ok d
  | .ok (.nx _) => if md = .sh then .ok .non else .er
  | .ok (.xc c fs _) => .ex c fs
  | _ => .er
abbrev msh (n : Nat) : Mds := List.replicate n .sh
theorem mdAt_msh {n i : Nat} : mdAt (msh n) i = .sh := by
  unfold mdAt
  rw [List.getD_eq_getElem?_getD, List.getElem?_replicate]
  split <;> rfl
theorem Post.chkd {K : PySem.W.Frag} {mg : Str → Option Value} {E : XK} {S H : Hp} {md : Md} {np : Nat} {f : List D → Res D} {ds : List D} {Q : VK} (h : Post K mg E S H md (chk np f ds) Q) : ds.length = np ∧ Post K mg E S H md (f ds) Q := by
  unfold chk at h
  split at h
  · rename_i e; exact ⟨e, h⟩
  · exact h.elim
section
variable {P : Program} {w : World} {K : PySem.W.Frag} {mg : Str → Option Value} {base : Heap}
theorem fn_ok {x qual : Str} {st : Stmt} {f : Addr} {fd : FuncData} {N ps : List Str} {k : Nat} {md : Md} {m' : Mds} {F : FS} (Fn : Fun K x qual st f fd) (Sc : FnScope N ps (defScope st)) (hnp : ps.length ≤ N.length)
    (h : ∀ (cdv : Value) (A : Around) (outer : List PySem.Env) (s : Shared) (H : Hp) (E : XK), Room k (A.deeper (PyProof.Rows.envOfC qual (defScope st) s.heap.objs.size f cdv)) →
      JSs (cxOf (L2.CX P w) P w K mg base N qual (defScope st) f cdv A outer s H E) (fun cls d _ H => E cls d H) ⟨[], [], md⟩ (msh N.length) m' (defBody st) F) :
    FnOk P w K mg base (L2.CX P w) (k + 1) f fd ps (spD K mg ps.length md (runF N.length md F)) := by
  refine Fn.okX Sc (fun vs H Q E hsp => ?_) (fun cdv A outer s H vs Q E hr hsp => ?_)
  · obtain ⟨S, ds, hs, rv, hp⟩ := hsp
    rw [rv.len]
    exact hp.chkd.1
  · obtain ⟨S, ds, hs, rv, hp⟩ := hsp
    obtain ⟨hl, hp⟩ := hp.chkd
    refine ⟨_, (h cdv A outer s H E hr).ps, S, H, startE N.length ds, ⟨S, fun _ => [], Step.refl hs, ⟨?_, fun i d e => ?_, fun i d e => List.nodup_nil, fun i j d e _ _ _ a ha => nomatch ha⟩, fun i d e a ha => nomatch ha⟩, ?_⟩
    · unfold startE L2.start
      rw [List.length_append, List.length_append, List.length_map, List.length_map, List.length_replicate, List.length_replicate, rv.len]
    · unfold startE at e
      by_cases hi : i < ds.length
      · rw [List.getElem?_append_left (by rw [List.length_map]; exact hi), List.getElem?_map, List.getElem?_eq_getElem hi] at e
        have e' : ds[i] = d := by injection e with e; injection e
        obtain ⟨v, ev, r⟩ := rv.get (List.getElem?_eq_getElem hi)
        refine ⟨v, ?_, ?_⟩
        · unfold L2.start
          rw [List.getElem?_append_left (by rw [List.length_map, rv.len]; exact hi), List.getElem?_map, ev]
          rfl
        · rw [mdAt_msh, ← e']
          exact ⟨r, rfl⟩
      · rw [List.getElem?_append_right (by rw [List.length_map]; omega), List.getElem?_replicate] at e
        split at e <;> cases e
    · unfold runF at hp
      cases ef : F (startE N.length ds) with
      | ok o =>
        rw [ef] at hp
        cases o with
        | nx ρ =>
          intro σ' H' ⟨S', F', st'⟩
          simp only at hp
          split at hp
          · rename_i hmd
            subst hmd
            exact hp .non S' H' [] st'.1 ⟨.non, rfl⟩ List.nodup_nil (fun a z => nomatch z)
          · exact hp.elim
        | rt d => exact fun v H' ⟨S', fp, s', o', n', f'⟩ => hp v S' H' fp s' o' n' f'
        | bk ρ => exact hp.elim
        | ct ρ => exact hp.elim
        | xc c fs ρ => exact fun σ' S' F' H' cls dd st' x' => hp S' H' cls dd st'.1 x'
      | ex c fs => rw [ef] at hp; exact hp.elim
      | er => rw [ef] at hp; exact hp.elim
end
section
variable {X : Cx} {E : WX} {m : Mds} {md : Md} {a b e : Expr} {es : List Expr} {fa fb : Env → Res D} {fs : Env → Res (List D)} {pos p : Pos} {x : Str} {k np : Nat} {f : Addr} {fd : FuncData} {ps : List Str} {g : List D → Res D}
/-- the def of this name keeps its promise -/
def Keeps (P : Program) (w : World) (K : PySem.W.Frag) (mg : Str → Option Value) (base : Heap) (x : Str) (k : Nat) (ps : List Str) (np : Nat) (md : Md) (g : List D → Res D) : Prop :=
  ∃ f fd, mg x = some (.ref f) ∧ PySem.W.keepIn K (.ref f) = true ∧ Binds K fd ps [] ∧ FnOk P w K mg base (L2.CX P w) k f fd ps (spD K mg np md g)
/-- the def of this name as it stands behind the top -/
def DefAt (K : PySem.W.Frag) (mg : Str → Option Value) (x qual : Str) (st : Stmt) (ps : List Str) : Prop := ∃ f fd, Fun K x qual st f fd ∧ Binds K fd ps [] ∧ mg x = some (.ref f)
theorem keeps_of {P : Program} {w : World} {K : PySem.W.Frag} {mg : Str → Option Value} {base : Heap} {x qual : Str} {st : Stmt} {ps N : List Str} {k : Nat} {md : Md} {F : FS} (dA : DefAt K mg x qual st ps) (Sc : FnScope N ps (defScope st)) (hnp : ps.length ≤ N.length)
    (h : ∀ (f : Addr) (cdv : Value) (A : Around) (outer : List PySem.Env) (s : Shared) (H : Hp) (E : XK), Room k (A.deeper (PyProof.Rows.envOfC qual (defScope st) s.heap.objs.size f cdv)) →
      JSs (cxOf (L2.CX P w) P w K mg base N qual (defScope st) f cdv A outer s H E) (fun cls d _ H => E cls d H) ⟨[], [], md⟩ (msh N.length) (msh N.length) (defBody st) F) : Keeps P w K mg base x (k + 1) ps ps.length md (runF N.length md F) := by
  obtain ⟨f, fd, Fn, bd, gl⟩ := dA
  exact ⟨f, fd, gl, Fn.kp, bd, fn_ok Fn Sc hnp (h f)⟩
/-- of what never gives anything -/
theorem keeps_er {P : Program} {w : World} {K : PySem.W.Frag} {mg : Str → Option Value} {base : Heap} {x qual : Str} {st : Stmt} {ps : List Str} {k np : Nat} {md : Md} (dA : DefAt K mg x qual st ps) : Keeps P w K mg base x k ps np md (fun _ => .er) := by
  obtain ⟨f, fd, Fn, bd, gl⟩ := dA
  have no : ∀ vs H Q E, spD K mg np md (fun _ => .er) vs H Q E → False := fun vs H Q E ⟨S, ds, hs, rv, hp⟩ => hp.chkd.2
  exact ⟨f, fd, gl, Fn.kp, bd, ⟨fun vs H Q E h => (no vs H Q E h).elim, fun A outer s H args us vs Q E hr he hb hv h => (no vs H Q E h).elim⟩⟩
theorem Keeps.mono {P : Program} {w : World} {K : PySem.W.Frag} {mg : Str → Option Value} {base : Heap} {x : Str} {ps : List Str} {k k' np : Nat} {md : Md} {g : List D → Res D} (G : Keeps P w K mg base x k ps np md g) (h : k ≤ k') : Keeps P w K mg base x k' ps np md g := by
  obtain ⟨f, fd, e1, e2, e3, G⟩ := G
  exact ⟨f, fd, e1, e2, e3, G.mono h⟩
theorem je_call (G : Keeps X.prog X.w X.K X.mg X.base x k ps np md g) (hr : Room k X.A) (tk : Takes X E)
    (ha : JA X E m (e :: es) fs) (hg : Gl X x := by rfl) (hdb : (x == ("__debug__" : Str)) = false := by decide) (he : starEach (e :: es) X.env = (false, eval e X.env) :: starEach es X.env := by rfl) (hpl : (backTo pos (starEach es X.env)).any (·.1) = false := by rfl) :
    JE X E m md (.Call (.Name x p) (e :: es) [] pos) (fOn (chk np g) fs) := by
  obtain ⟨f, fd, hm, hk, hb, G⟩ := G
  refine ⟨PEimp (pe_callS G hr hg hm hk hb (fun σ => passAt tk σ) ha.pa hdb he hpl) fun σ H Q h => ?_⟩
  obtain ⟨S, ρ, hm, hp⟩ := h
  exact ⟨S, ρ, hm, (Post.bind hp).imp fun ds S1 H1 s1 h1 vs rs => ⟨S1, ds, s1.sub, rs, h1⟩⟩
/-- an own new list that is not kept as one's own -/
theorem je_share (h : JE X E m md e fa) : JE X E m .sh e fa := by
  refine ⟨PEimp h.pe fun σ H Q q => ?_⟩
  obtain ⟨S, ρ, hm, hp⟩ := q
  refine ⟨S, ρ, hm, ?_⟩
  cases ef : fa ρ with
  | ok d =>
    rw [ef] at hp
    intro v S1 H1 fp s1 o hn hf
    let A : Addr → Prop := fun a => a ∈ fp
    have ho : ∀ a, A a → S1 a = none := fun a ha => (o.out ha).1
    refine hp v (take S1 H1 A) H1 [] ⟨s1.hh, s1.ss.trans (take_same s1.sub ho), take_sub s1.sub, fun a x => ?_⟩ ⟨o.shared s1.sub ho fun a ha => ha, rfl⟩ List.nodup_nil (fun a z => nomatch z)
    by_cases z : A a
    · exact .inr (hf a z)
    · rw [take_out z] at x
      exact s1.new a x
  | ex c fs => rw [ef] at hp; exact hp
  | er => rw [ef] at hp; exact hp.elim
end
section
variable {K : PySem.W.Frag} {mg : Str → Option Value}
theorem repl1 {S : Hp} {vs : List V} {d : D} (r : RepL K mg S vs [d]) : ∃ v, vs = [v] ∧ Rep K mg S v d := by
  match vs, r with
  | [], r => have := r.len; simp at this
  | [v], r => exact ⟨v, rfl, r.head⟩
  | _ :: _ :: _, r => have := r.len; simp at this
theorem repl2 {S : Hp} {vs : List V} {d e : D} (r : RepL K mg S vs [d, e]) : ∃ v w, vs = [v, w] ∧ Rep K mg S v d ∧ Rep K mg S w e := by
  match vs, r with
  | [], r => have := r.len; simp at this
  | [v], r => have := r.len; simp at this
  | [v, w], r => exact ⟨v, w, rfl, r.head, r.tail.head⟩
  | _ :: _ :: _ :: _, r => have := r.len; simp at this
/-- a rule of one argument -/
def on1 (g : D → Res D) : List D → Res D
  | [d] => g d
  | _ => .er
def on2 (g : D → D → Res D) : List D → Res D
  | [d, e] => g d e
  | _ => .er
theorem calld1 {md : Md} {r : List V → Hp → VK → Prop} {g : D → Res D} (h : ∀ (E : XK) (S H : Hp) (x : V) (d : D) (Q : VK), Same S H → Rep K mg S x d → Post K mg E S H md (g d) Q → r [x] H Q) : CallD K mg md r (on1 g) := by
  intro E S H xs ds Q hs rv hp
  match ds with
  | [] => exact hp.elim
  | [d] =>
    obtain ⟨v, rfl, rd⟩ := repl1 rv
    exact h E S H v d Q hs rd hp
  | _ :: _ :: _ => exact hp.elim
theorem calld2 {md : Md} {r : List V → Hp → VK → Prop} {g : D → D → Res D} (h : ∀ (E : XK) (S H : Hp) (x y : V) (d e : D) (Q : VK), Same S H → Rep K mg S x d → Rep K mg S y e → Post K mg E S H md (g d e) Q → r [x, y] H Q) : CallD K mg md r (on2 g) := by
  intro E S H xs ds Q hs rv hp
  match ds with
  | [] => exact hp.elim
  | [d] => exact hp.elim
  | [d, e] =>
    obtain ⟨v, w, rfl, rd, re⟩ := repl2 rv
    exact h E S H v w d e Q hs rd re hp
  | _ :: _ :: _ :: _ => exact hp.elim
def dLen : D → Res D
  | .lst xs => .ok (.int xs.length)
  | .frl xs => .ok (.int xs.length)
  | .tup xs => .ok (.int xs.length)
  | .str z => if szOk z.length = true then .ok (.int z.length) else .er
  | _ => .er
theorem calld_len : CallD K mg .sh (fun xs H Q => ∃ x n, xs = [x] ∧ LenV K x H n ∧ Q (.int n) H) (on1 dLen) := calld1 fun E S H x d Q hs rx hp => by
  cases d with
  | lst ds =>
    obtain ⟨a, vs, rfl, ha, rv⟩ := rx.of_lst
    exact ⟨_, vs.length, rfl, .inl ⟨_, .inl (.inl (hs _ _ ha)), rfl⟩, by rw [rv.len]; exact Post.val hp hs (.int _)⟩
  | frl ds =>
    obtain ⟨a, vs, rfl, ha, rv⟩ := rx.of_frl
    exact ⟨_, vs.length, rfl, .inl ⟨_, same_l hs ha, rfl⟩, by rw [rv.len]; exact Post.val hp hs (.int _)⟩
  | tup ds =>
    obtain ⟨a, vs, rfl, ha, rv⟩ := rx.of_tup
    exact ⟨_, vs.length, rfl, .inr ⟨_, same_t hs ha, rfl⟩, by rw [rv.len]; exact Post.val hp hs (.int _)⟩
  | str z =>
    obtain ⟨hz, hp⟩ := Post.of_if hp
    cases rx
    exact ⟨_, z.length, rfl, ⟨szOk_ok hz, rfl⟩, hp.val hs (.int _)⟩
  | _ => exact hp.elim
def dInt : D → Res D
  | .int i => .ok (.int i)
  | .bl b => .ok (.int (if b then 1 else 0))
  | _ => .er
def dAbs : D → Res D
  | .int i => .ok (.int (if i < 0 then -i else i))
  | _ => .er
def dMax2 : D → D → Res D
  | .int i, .int j => .ok (.int (if j > i then j else i))
  | _, _ => .er
def dMin2 : D → D → Res D
  | .int i, .int j => .ok (.int (if j < i then j else i))
  | _, _ => .er
end
section
variable {X : Cx} {E : WX} {m : Mds} {md : Md} {a b e : Expr} {es : List Expr} {fs : Env → Res (List D)} {pos p : Pos}
theorem je_len (hm : X.mg "len" = none) (ha : JA X E m [e] fs) (hg : Gl X "len" := by rfl) (he : starEach [e] X.env = (false, eval e X.env) :: starEach [] X.env := by rfl) : JE X E m .sh (.Call (.Name "len" p) [e] [] pos) (fOn (on1 dLen) fs) :=
  je_callB call_len calld_len hm ha hg boot_len (by decide) (by decide) he (by rfl)
theorem je_int_ (hm : X.mg "int" = none) (ha : JA X E m [e] fs) (hg : Gl X "int" := by rfl) (he : starEach [e] X.env = (false, eval e X.env) :: starEach [] X.env := by rfl) : JE X E m .sh (.Call (.Name "int" p) [e] [] pos) (fOn (on1 dInt) fs) :=
  je_callTy call_int1 (calld1 fun E S H x d Q hs rx hp => by
    cases d with
    | int i => cases rx; exact .inl ⟨i, rfl, Post.val hp hs (.int _)⟩
    | bl i => cases rx; exact .inr ⟨i, rfl, Post.val hp hs (.int _)⟩
    | _ => exact hp.elim) hm ha hg (by decide +kernel) (by decide) (by decide) he (by rfl)
theorem je_max2 (hm : X.mg "max" = none) (ha : JA X E m [a, b] fs) (hc : X.calm = true := by rfl) (hg : Gl X "max" := by rfl) (he : starEach [a, b] X.env = (false, eval a X.env) :: starEach [b] X.env := by rfl) (hpl : (backTo pos (starEach [b] X.env)).any (·.1) = false := by rfl) : JE X E m .sh (.Call (.Name "max" p) [a, b] [] pos) (fOn (on2 dMax2) fs) :=
  je_callB (call_max2 hc) (calld2 fun E S H x y d e Q hs rx ry hp => by
    cases d with
    | int i =>
      cases e with
      | int j => cases rx; cases ry; exact ⟨i, j, rfl, Post.val hp hs (.int _)⟩
      | _ => exact hp.elim
    | _ => exact hp.elim) hm ha hg (by decide +kernel) (by decide) (by decide) he hpl
theorem je_min2 (hm : X.mg "min" = none) (ha : JA X E m [a, b] fs) (hc : X.calm = true := by rfl) (hg : Gl X "min" := by rfl) (he : starEach [a, b] X.env = (false, eval a X.env) :: starEach [b] X.env := by rfl) (hpl : (backTo pos (starEach [b] X.env)).any (·.1) = false := by rfl) : JE X E m .sh (.Call (.Name "min" p) [a, b] [] pos) (fOn (on2 dMin2) fs) :=
  je_callB (call_min2 hc) (calld2 fun E S H x y d e Q hs rx ry hp => by
    cases d with
    | int i =>
      cases e with
      | int j => cases rx; cases ry; exact ⟨i, j, rfl, Post.val hp hs (.int _)⟩
      | _ => exact hp.elim
    | _ => exact hp.elim) hm ha hg (by decide +kernel) (by decide) (by decide) he hpl
end
end Da
namespace Da
open PySem PySem.Spec L2
mutual
def D.py : D → Option PyData
  | .non => some .none
  | .bl b => some (.bool b)
  | .int i => some (.int i)
  | .str x => some (.str x)
  | .lst xs => match D.pys xs with
    | some ys => some (.list ys)
    | none => none
  | .tup xs => match D.pys xs with
    | some ys => some (.tuple ys)
    | none => none
  | _ => none
def D.pys : List D → Option (List PyData)
  | [] => some []
  | x :: xs => match D.py x, D.pys xs with
    | some y, some ys => some (y :: ys)
    | _, _ => none
end
section
variable {K : PySem.W.Frag} {mg : Str → Option Value} {S : Hp}
mutual
theorem dp_of : ∀ (d : D) (v : V) (y : PyData), Rep K mg S v d → D.py d = some y → Dp K S v y
  | .non, v, y, h, e => by cases h; cases e; exact .non
  | .bl b, v, y, h, e => by cases h; cases e; exact .bl b
  | .int i, v, y, h, e => by cases h; cases e; exact .int i
  | .str x, v, y, h, e => by cases h; cases e; exact .str x
  | .lst xs, v, y, h, e => by
    unfold D.py at e
    split at e
    · rename_i ys ey
      cases e
      obtain ⟨a, vs, rfl, ha, r⟩ := h.of_lst
      exact .lst (.inl (.inl ha)) (dps_of xs vs ys r ey)
    · cases e
  | .tup xs, v, y, h, e => by
    unfold D.py at e
    split at e
    · rename_i ys ey
      cases e
      obtain ⟨a, vs, rfl, ha, r⟩ := h.of_tup
      exact .tup ha (dps_of xs vs ys r ey)
    · cases e
  | .frl xs, v, y, h, e => by simp [D.py] at e
  | .dic ks vs, v, y, h, e => by simp [D.py] at e
  | .dit ks vs, v, y, h, e => by simp [D.py] at e
  | .obj c ns vs, v, y, h, e => by simp [D.py] at e
theorem dps_of : ∀ (ds : List D) (vs : List V) (ys : List PyData), RepL K mg S vs ds → D.pys ds = some ys → DpAll K S vs ys
  | [], vs, ys, r, e => by
    cases e
    rw [r.nil_iff.mpr rfl]
    exact .nil
  | d :: ds, vs, ys, r, e => by
    unfold D.pys at e
    split at e
    · rename_i y ys' e1 e2
      cases e
      match vs, r with
      | [], r => have := r.len; simp at this
      | v :: vs, r => exact .cons (dp_of d v y r.head e1) (dps_of ds vs ys' r.tail e2)
    · cases e
end
theorem dp_mono {H : Hp} (h : Same S H) : ∀ {v : V} {y : PyData}, Dp K S v y → Dp K H v y := fun {v y} x => Dp.rec (motive_1 := fun v y _ => Dp K H v y) (motive_2 := fun vs ys _ => DpAll K H vs ys)
  .non .bl .int .str (fun a _ ih => .lst (same_l h a) ih) (fun a _ ih => .tup (same_t h a) ih) .nil (fun _ _ a b => .cons a b) x
end
/-- are they equal -/
def eqD (x y : D) : Res Bool := match D.py x, D.py y with
  | some a, some b => if (SeqAt.shaped a && SeqAt.shaped b) = true then .ok (PyData.eqv a b) else .er
  | _, _ => .er
def dEq (x y : D) : Res D := (eqD x y).bind fun b => .ok (.bl b)
def dNe (x y : D) : Res D := (eqD x y).bind fun b => .ok (.bl (!b))
/-- is one among them -/
def inD (x : D) (ys : List D) : Res Bool := match D.py x, D.pys ys with
  | some a, some bs => if (SeqAt.shaped a && SeqAt.shaped (.list bs)) = true then .ok (bs.any fun z => PyData.eqv z a) else .er
  | _, _ => .er
def dIn (x y : D) : Res D := match y with
  | .lst ys => (inD x ys).bind fun b => .ok (.bl b)
  | .tup ys => (inD x ys).bind fun b => .ok (.bl b)
  | _ => .er
def dNotIn (x y : D) : Res D := match y with
  | .lst ys => (inD x ys).bind fun b => .ok (.bl (!b))
  | .tup ys => (inD x ys).bind fun b => .ok (.bl (!b))
  | _ => .er
section
variable {K : PySem.W.Frag} {mg : Str → Option Value} {E : XK} {S H : Hp}
theorem eqD_ok {x y : D} {r : Bool → Res D} {Q : VK} (h : Post K mg E S H .sh ((eqD x y).bind r) Q) : ∃ a b, D.py x = some a ∧ D.py y = some b ∧ SeqAt.shaped a = true ∧ SeqAt.shaped b = true ∧ Post K mg E S H .sh (r (PyData.eqv a b)) Q := by
  unfold eqD at h
  split at h
  · rename_i a b ea eb
    split at h
    · rename_i hs
      have hs := Bool.and_eq_true_iff.mp hs
      exact ⟨a, b, ea, eb, hs.1, hs.2, h⟩
    · exact h.elim
  · exact h.elim
theorem inD_ok {x : D} {ys : List D} {r : Bool → Res D} {Q : VK} (h : Post K mg E S H .sh ((inD x ys).bind r) Q) : ∃ a bs, D.py x = some a ∧ D.pys ys = some bs ∧ SeqAt.shaped a = true ∧ SeqAt.shaped (.list bs) = true ∧ Post K mg E S H .sh (r (bs.any fun z => PyData.eqv z a)) Q := by
  unfold inD at h
  split at h
  · rename_i a b ea eb
    split at h
    · rename_i hs
      have hs := Bool.and_eq_true_iff.mp hs
      exact ⟨a, b, ea, eb, hs.1, hs.2, h⟩
    · exact h.elim
  · exact h.elim
theorem opd_eq : OpD K mg .sh (rEqD K) dEq := by
  intro E S H x y dx dy Q hs rx ry h
  obtain ⟨a, b, ea, eb, sa, sb, h⟩ := eqD_ok h
  exact ⟨a, b, dp_mono hs (dp_of dx x a rx ea), dp_mono hs (dp_of dy y b ry eb), sa, sb, Post.val h hs (.bl _)⟩
theorem opd_ne : OpD K mg .sh (rNeD K) dNe := by
  intro E S H x y dx dy Q hs rx ry h
  obtain ⟨a, b, ea, eb, sa, sb, h⟩ := eqD_ok h
  exact ⟨a, b, dp_mono hs (dp_of dx x a rx ea), dp_mono hs (dp_of dy y b ry eb), sa, sb, Post.val h hs (.bl _)⟩
end
theorem canLayL {bs : List PyData} (h : SeqAt.shaped (.list bs) = true) : PyData.canLayAll0 bs = true := by
  have := SeqAt.canLay_of_shaped h
  unfold PyData.canLay0 at this
  exact this
section
variable {X : Cx}
def rInT (K : PySem.W.Frag) : R2 := fun x y H Q => ∃ d ds, Dp K H x d ∧ Dp K H y (.tuple ds) ∧ SeqAt.shaped d = true ∧ SeqAt.shaped (.list ds) = true ∧ Q (.bl (ds.any fun z => PyData.eqv z d)) H
def rNotInT (K : PySem.W.Frag) : R2 := fun x y H Q => ∃ d ds, Dp K H x d ∧ Dp K H y (.tuple ds) ∧ SeqAt.shaped d = true ∧ SeqAt.shaped (.list ds) = true ∧ Q (.bl (!ds.any fun z => PyData.eqv z d)) H
theorem room_in {A : Around} {d : PyData} {ds : List PyData} (hd : SeqAt.shaped d = true) (hu : A.units + 65 < cLine) : A.units + 1 + min (PyData.depthAll ds) d.depth < cLine := by
  have h1 := SeqAt.depth_of_shaped hd
  have h2 := Nat.min_le_right (PyData.depthAll ds) d.depth
  omega
theorem op_inT (hu : X.A.units + 65 < cLine) : OpR X (compareOp .In) (rInT X.K) := fun pins s σ H x y v u Q I rx ry h => by
  obtain ⟨d, ds, hd, he, sd, se, q⟩ := h
  obtain ⟨as, r1⟩ := Dp.reads I d x v hd rx
  obtain ⟨bs, r2⟩ := Dp.reads I (.tuple ds) y u he ry
  exact SeqAt.in_tuple_reads r2 r1 (canLayL se) (SeqAt.canLay_of_shaped sd) (room_in sd hu) ⟨.bl _, H, I, rfl, q⟩
theorem op_notInT (hu : X.A.units + 65 < cLine) : OpR X (compareOp .NotIn) (rNotInT X.K) := fun pins s σ H x y v u Q I rx ry h => by
  obtain ⟨d, ds, hd, he, sd, se, q⟩ := h
  obtain ⟨as, r1⟩ := Dp.reads I d x v hd rx
  obtain ⟨bs, r2⟩ := Dp.reads I (.tuple ds) y u he ry
  exact SeqAt.notIn_tuple_reads r2 r1 (canLayL se) (SeqAt.canLay_of_shaped sd) (room_in sd hu) ⟨.bl _, H, I, rfl, q⟩
end
section
variable {K : PySem.W.Frag} {mg : Str → Option Value}
theorem pys_lst {ys : List D} {bs : List PyData} (h : D.pys ys = some bs) : D.py (.lst ys) = some (.list bs) := by unfold D.py; rw [h]
theorem pys_tup {ys : List D} {bs : List PyData} (h : D.pys ys = some bs) : D.py (.tup ys) = some (.tuple bs) := by unfold D.py; rw [h]
theorem opd_in : OpD K mg .sh (fun x y H Q => rInD K x y H Q ∨ rInT K x y H Q) dIn := by
  intro E S H x y dx dy Q hs rx ry h
  cases dy with
  | lst ys =>
    obtain ⟨a, bs, ea, eb, sa, sb, h⟩ := inD_ok h
    exact .inl ⟨a, bs, dp_mono hs (dp_of dx x a rx ea), dp_mono hs (dp_of _ y _ ry (pys_lst eb)), sa, sb, Post.val h hs (.bl _)⟩
  | tup ys =>
    obtain ⟨a, bs, ea, eb, sa, sb, h⟩ := inD_ok h
    exact .inr ⟨a, bs, dp_mono hs (dp_of dx x a rx ea), dp_mono hs (dp_of _ y _ ry (pys_tup eb)), sa, sb, Post.val h hs (.bl _)⟩
  | _ => exact h.elim
theorem opd_notIn : OpD K mg .sh (fun x y H Q => rNotInD K x y H Q ∨ rNotInT K x y H Q) dNotIn := by
  intro E S H x y dx dy Q hs rx ry h
  cases dy with
  | lst ys =>
    obtain ⟨a, bs, ea, eb, sa, sb, h⟩ := inD_ok h
    exact .inl ⟨a, bs, dp_mono hs (dp_of dx x a rx ea), dp_mono hs (dp_of _ y _ ry (pys_lst eb)), sa, sb, Post.val h hs (.bl _)⟩
  | tup ys =>
    obtain ⟨a, bs, ea, eb, sa, sb, h⟩ := inD_ok h
    exact .inr ⟨a, bs, dp_mono hs (dp_of dx x a rx ea), dp_mono hs (dp_of _ y _ ry (pys_tup eb)), sa, sb, Post.val h hs (.bl _)⟩
  | _ => exact h.elim
def dIsN : D → Res D
  | .non => .ok (.bl true)
  | _ => .ok (.bl false)
def dIsB (c : Bool) : D → Res D
  | .bl b => .ok (.bl (b == c))
  | _ => .ok (.bl false)
def dNot1 (g : D → Res D) : D → Res D := fun d => (g d).bind fun b => match b with
  | .bl b => .ok (.bl (!b))
  | _ => .er
theorem non_iff {S : Hp} {v : V} {d : D} (r : Rep K mg S v d) : dIsN d = .ok (.bl (decide (v = .non))) := by
  cases r <;> rfl
theorem bl_iff {S : Hp} {v : V} {d : D} {c : Bool} (r : Rep K mg S v d) : dIsB c d = .ok (.bl (decide (v = .bl c))) := by
  cases r with
  | bl b => cases b <;> cases c <;> rfl
  | _ => rfl
end
section
variable {X : Cx}
def rIsB1 (c : Bool) : R2 := fun x y H Q => y = .bl c ∧ Q (.bl (decide (x = .bl c))) H
theorem plainB {x : V} {v : Value} {c : Bool} (r : RelV x v) : plainIs v (.bool c) = true ∧ (decide (x = .bl c) = (v == .bool c)) := by
  cases x with
  | non => cases r; exact ⟨rfl, rfl⟩
  | bl b => cases r; cases b <;> cases c <;> exact ⟨rfl, rfl⟩
  | int i => obtain ⟨t, rfl⟩ := r; exact ⟨rfl, rfl⟩
  | str i => obtain ⟨t, rfl⟩ := r; exact ⟨rfl, rfl⟩
  | byt i => obtain ⟨t, rfl⟩ := r; exact ⟨rfl, rfl⟩
  | flt i => obtain ⟨t, rfl⟩ := r; exact ⟨rfl, rfl⟩
  | ref a => cases r; exact ⟨rfl, rfl⟩
  | ty n => cases r; exact ⟨rfl, rfl⟩
theorem op_isB1 (c : Bool) : OpR X (compareOp .Is) (rIsB1 c) := fun pins s σ H x y v u Q I rx ry h => by
  obtain ⟨rfl, q⟩ := h
  cases ry
  obtain ⟨h1, h2⟩ := plainB (c := c) rx
  exact wpAny_is_plain h1 ⟨.bl _, H, I, by rw [← h2]; rfl, q⟩
end
section
variable {X : Cx} {E : WX} {m : Mds} {md : Md} {a b e : Expr} {es : List Expr} {fa fb : Env → Res D} {fs : Env → Res (List D)} {pos p pc : Pos} {k j : Nat}
/-- room for what asks no call's depth -/
def RmU (A : Around) : Prop := A.units + 200 < cLine
theorem _root_.L2.Room.u {A : Around} {k : Nat} (hr : Room k A) : RmU A := by have := hr.un; unfold RmU; omega
theorem hu65 {A : Around} (hr : RmU A) : A.units + 65 < cLine := by unfold RmU at hr; omega
theorem hu64 {A : Around} (hr : RmU A) : A.units + 64 < cLine := by unfold RmU at hr; omega
theorem je_eq (hr : RmU X.A) (ha : JE X E m .sh a fa) (hb : JE X E m .sh b fb) : JE X E m .sh (.Compare a [.Eq] [b] pos) (f2 dEq fa fb) := je_cmp (op_eqD (hu64 hr)) opd_eq ha hb (nomark _)
theorem je_in (hr : RmU X.A) (ha : JE X E m .sh a fa) (hb : JE X E m .sh b fb) (hm : behindInMarks .In b = false := by rfl) : JE X E m .sh (.Compare a [.In] [b] pos) (f2 dIn fa fb) := je_cmp (OpR.or (op_inD (hu65 hr)) (op_inT (hu65 hr))) opd_in ha hb hm
theorem jt_eq (hr : RmU X.A) (ha : JE X E m .sh a fa) (hb : JE X E m .sh b fb) : JT X E m (.Compare a [.Eq] [b] pos) (fB (f2 dEq fa fb)) := jt_cmp (op_eqD (hu64 hr)) opd_eq ha hb (nomark _)
theorem jt_ne (hr : RmU X.A) (ha : JE X E m .sh a fa) (hb : JE X E m .sh b fb) : JT X E m (.Compare a [.NotEq] [b] pos) (fB (f2 dNe fa fb)) := jt_cmp (op_neD (hu64 hr)) opd_ne ha hb (nomark _)
theorem jt_notIn (hr : RmU X.A) (ha : JE X E m .sh a fa) (hb : JE X E m .sh b fb) (hm : behindInMarks .NotIn b = false := by rfl) : JT X E m (.Compare a [.NotIn] [b] pos) (fB (f2 dNotIn fa fb)) := jt_cmp (OpR.or (op_notInD (hu65 hr)) (op_notInT (hu65 hr))) opd_notIn ha hb hm
theorem un_tE {K : PySem.W.Frag} {mg : Str → Option Value} {r : R2} {g : D → Res D} {c : V} {d0 : D} (hr : ∀ (E : XK) (S H : Hp) (x : V) (d : D) (Q : VK), Same S H → Rep K mg S x d → Post K mg E S H .sh (g d) Q → r x c H Q) {σ : L2.St} {H : Hp} {Q : VK}
    (h : tE K mg E m .sh (f1 g fa) σ H Q) : tOp r (tE K mg E m .sh fa) (tC c) σ H Q := by
  obtain ⟨S, ρ, hm, hp⟩ := h
  exact ⟨S, ρ, hm, (Post.bind hp).post fun dx v S1 H1 s1 r1 h1 => hr _ S1 H1 v dx Q s1.sub r1 h1⟩
theorem isN_ok {K : PySem.W.Frag} {mg : Str → Option Value} (E : XK) (S H : Hp) (x : V) (d : D) (Q : VK) (hs : Same S H) (r : Rep K mg S x d) (h : Post K mg E S H .sh (dIsN d) Q) : Q (.bl (decide (x = .non))) H := by
  rw [non_iff r] at h
  exact h.val hs (.bl _)
theorem notN_ok {K : PySem.W.Frag} {mg : Str → Option Value} (E : XK) (S H : Hp) (x : V) (d : D) (Q : VK) (hs : Same S H) (r : Rep K mg S x d) (h : Post K mg E S H .sh (dNot1 dIsN d) Q) : Q (.bl (!decide (x = .non))) H := by
  unfold dNot1 at h
  rw [non_iff r] at h
  exact Post.val h hs (.bl _)
theorem isB_ok {K : PySem.W.Frag} {mg : Str → Option Value} {c : Bool} (E : XK) (S H : Hp) (x : V) (d : D) (Q : VK) (hs : Same S H) (r : Rep K mg S x d) (h : Post K mg E S H .sh (dIsB c d) Q) : Q (.bl (decide (x = .bl c))) H := by
  rw [bl_iff r] at h
  exact h.val hs (.bl _)
theorem tT_of {K : PySem.W.Frag} {mg : Str → Option Value} {f : Env → Res D} {t : TE} (ht : ∀ σ H Q, tE K mg E m .sh f σ H Q → t σ H Q) {σ : L2.St} {H : Hp} {Q : Bool → Hp → Prop} (h : tT K mg E m (fB f) σ H Q) : tTest t σ H Q := by
  obtain ⟨S, ρ, hm, hp⟩ := h
  refine ht σ H _ ⟨S, ρ, hm, (PostW.bind hp).post fun d v S1 H1 s1 r k => ?_⟩
  cases d with
  | bl c => cases r; exact ⟨c, rfl, k S1 H1 (Step.refl s1.sub)⟩
  | _ => exact k.elim
theorem je_isN (ha : JE X E m .sh a fa) : JE X E m .sh (.Compare a [.Is] [.Constant .none j pc] pos) (f1 dIsN fa) := ⟨PEimp (pe_cmpR op_isN ha.pe pe_non (nomark _)) fun σ H Q h => un_tE (d0 := .non) (fun E S H x d Q hs r h => ⟨rfl, isN_ok E S H x d Q hs r h⟩) h⟩
theorem je_isB {c : Bool} (ha : JE X E m .sh a fa) : JE X E m .sh (.Compare a [.Is] [.Constant (.bool c) j pc] pos) (f1 (dIsB c) fa) := ⟨PEimp (pe_cmpR (op_isB1 c) ha.pe pe_bl (nomark _)) fun σ H Q h => un_tE (d0 := .non) (fun E S H x d Q hs r h => ⟨rfl, isB_ok E S H x d Q hs r h⟩) h⟩
theorem jt_isN (ha : JE X E m .sh a fa) : JT X E m (.Compare a [.Is] [.Constant .none j pc] pos) (fB (f1 dIsN fa)) := ⟨PTimp (pt_cmpR op_isN ha.pe pe_non (nomark _)) fun σ H Q h => tT_of (fun σ H Q h => un_tE (d0 := .non) (fun E S H x d Q hs r h => ⟨rfl, isN_ok E S H x d Q hs r h⟩) h) h⟩
theorem jt_notN (ha : JE X E m .sh a fa) : JT X E m (.Compare a [.IsNot] [.Constant .none j pc] pos) (fB (f1 (dNot1 dIsN) fa)) := ⟨PTimp (pt_cmpR op_notN ha.pe pe_non (nomark _)) fun σ H Q h => tT_of (fun σ H Q h => un_tE (d0 := .non) (fun E S H x d Q hs r h => ⟨rfl, notN_ok E S H x d Q hs r h⟩) h) h⟩
theorem jt_isB {c : Bool} (ha : JE X E m .sh a fa) : JT X E m (.Compare a [.Is] [.Constant (.bool c) j pc] pos) (fB (f1 (dIsB c) fa)) := ⟨PTimp (pt_cmpR (op_isB1 c) ha.pe pe_bl (nomark _)) fun σ H Q h => tT_of (fun σ H Q h => un_tE (d0 := .non) (fun E S H x d Q hs r h => ⟨rfl, isB_ok E S H x d Q hs r h⟩) h) h⟩
end
def tyNm : D → Option String
  | .non => some "NoneType"
  | .bl _ => some "bool"
  | .int _ => some "int"
  | .str _ => some "str"
  | .lst _ => some "list"
  | .frl _ => some "list"
  | .tup _ => some "tuple"
  | .dic _ _ => some "dict"
  | .dit _ _ => some "dict"
  | .obj _ _ _ => none
  | .exc _ _ _ => none
def isTy (T : String) (d : D) : Res Bool := match tyNm d with
  | some a => (match kitB a T with
    | some b => .ok b
    | none => .er)
  | none => .er
def dIsi (T : String) (d : D) : Res D := (isTy T d).bind fun b => .ok (.bl b)
def dIsi2 (T U : String) (d : D) : Res D := (isTy T d).bind fun b => if b = true then .ok (.bl true) else (isTy U d).bind fun c => .ok (.bl c)
section
variable {K : PySem.W.Frag} {mg : Str → Option Value}
theorem tyx_of {S H : Hp} {v : V} {d : D} {a : String} (hs : Same S H) (r : Rep K mg S v d) (h : tyNm d = some a) : TyX K H v (.type a) := by
  cases r with
  | non => cases h; exact .base .non
  | bl b => cases h; exact .base (.bl b)
  | int b => cases h; exact .base (.int b)
  | str b => cases h; exact .base (.str b)
  | lst e => cases h; exact .base (.lst (hs _ _ e))
  | frl e =>
    cases h
    rcases e with (e | ⟨o, e⟩) | ⟨o, its, n, e, c, _⟩
    · exact .base (.lst (hs _ _ e))
    · exact .base (.frz (hs _ _ e))
    · exact .kList e c
  | tup e =>
    cases h
    exact .base (.tup (hs _ _ e))
  | dic e =>
    cases h
    rcases e with e | ⟨o, e⟩
    · exact .base (.dK (hs _ _ e))
    · exact .fDict (hs _ _ e)
  | dit e => cases h; exact .base (.dT (hs _ _ e))
  | exc => cases h
  | obj e => cases h
theorem isTy_ok {S H : Hp} {v : V} {d : D} {T : String} {b : Bool} (hs : Same S H) (r : Rep K mg S v d) (h : isTy T d = .ok b) : ∃ t, TyX K H v t ∧ PySem.W.kitOne K t (.type T) = some b := by
  unfold isTy at h
  split at h
  · rename_i a ea
    split at h
    · rename_i c ec
      injection h with h
      subst h
      exact ⟨.type a, tyx_of hs r ea, kit_ty ec⟩
    · cases h
  · cases h
end
section
variable {X : Cx} {E : WX} {m : Mds} {md : Md} {a b e : Expr} {es : List Expr} {fa fb : Env → Res D} {fs : Env → Res (List D)} {pos p p1 p2 p3 : Pos} {x1 : Nat}
theorem isTy_post {K : PySem.W.Frag} {mg : Str → Option Value} {E : XK} {S H : Hp} {T : String} {d : D} {r : Bool → Res D} {Q : VK} (h : Post K mg E S H .sh ((isTy T d).bind r) Q) : ∃ b, isTy T d = .ok b ∧ Post K mg E S H .sh (r b) Q := by
  cases e : isTy T d with
  | ok b => rw [e] at h; exact ⟨b, rfl, h⟩
  | ex c fs =>
    exfalso
    unfold isTy at e
    split at e
    · split at e <;> cases e
    · cases e
  | er => rw [e] at h; exact h.elim
theorem je_isi (T : String) {nT : Str} (hm : X.mg "isinstance" = none) (hT : X.mg nT = none) (ha : JE X E m .sh a fa) (hv : bootBuiltins nT = some (.type T) := by decide +kernel) (hg : Gl X "isinstance" := by rfl) (hgT : Gl X nT := by rfl) (hn : nT ≠ "__name__" := by decide) (hdb : (nT == ("__debug__" : Str)) = false := by decide)
    (he : starEach [a, .Name nT p2] X.env = (false, eval a X.env) :: starEach [.Name nT p2] X.env := by rfl) (he2 : starEach [.Name nT p2] X.env = (false, eval (.Name nT p2) X.env) :: starEach [] X.env := by rfl) (hpl : (backTo pos (starEach [.Name nT p2] X.env)).any (·.1) = false := by rfl) :
    JE X E m .sh (.Call (.Name "isinstance" p) [a, .Name nT p2] [] pos) (f1 (dIsi T) fa) := by
  refine ⟨PEimp (pe_callB call_isi hg hm (by decide +kernel) (pa_cons ha.pe (pa_cons (pe_bltn (v := .ty T) hgT hT hv rfl hn hdb) pa_nil he2) he) (by decide) (by decide) he hpl) fun σ H Q h => ?_⟩
  obtain ⟨S, ρ, hm, hp⟩ := h
  refine ⟨S, ρ, hm, (Post.bind hp).post fun d v S1 H1 s1 r k => ?_⟩
  obtain ⟨bb, eb, k⟩ := isTy_post k
  obtain ⟨t, ty, kt⟩ := isTy_ok s1.sub r eb
  exact ⟨v, .ty T, t, .type T, bb, rfl, .ty T, ty, kt, k.val s1.sub (.bl _)⟩
theorem je_isi2 (T U : String) {nT nU : Str} (hm : X.mg "isinstance" = none) (hT : X.mg nT = none) (hU : X.mg nU = none) (ha : JE X E m .sh a fa) (hv : bootBuiltins nT = some (.type T) := by decide +kernel) (hvU : bootBuiltins nU = some (.type U) := by decide +kernel) (hg : Gl X "isinstance" := by rfl)
    (hgT : Gl X nT := by rfl) (hgU : Gl X nU := by rfl) (hn : nT ≠ "__name__" := by decide) (hdb : (nT == ("__debug__" : Str)) = false := by decide) (hnU : nU ≠ "__name__" := by decide) (hdbU : (nU == ("__debug__" : Str)) = false := by decide)
    (he : starEach [a, .Tuple [.Name nT p2, .Name nU p3] x1 p1] X.env = (false, eval a X.env) :: starEach [.Tuple [.Name nT p2, .Name nU p3] x1 p1] X.env := by rfl)
    (he2 : starEach [.Tuple [.Name nT p2, .Name nU p3] x1 p1] X.env = (false, eval (.Tuple [.Name nT p2, .Name nU p3] x1 p1) X.env) :: starEach [] X.env := by rfl) (hpl : (backTo pos (starEach [.Tuple [.Name nT p2, .Name nU p3] x1 p1] X.env)).any (·.1) = false := by rfl)
    (ht1 : starEach [.Name nT p2, .Name nU p3] X.env = (false, eval (.Name nT p2) X.env) :: starEach [.Name nU p3] X.env := by rfl) (ht2 : starEach [.Name nU p3] X.env = (false, eval (.Name nU p3) X.env) :: starEach [] X.env := by rfl) :
    JE X E m .sh (.Call (.Name "isinstance" p) [a, .Tuple [.Name nT p2, .Name nU p3] x1 p1] [] pos) (f1 (dIsi2 T U) fa) := by
  refine ⟨PEimp (pe_callB call_isiT hg hm (by decide +kernel) (pa_cons ha.pe (pa_cons (pe_tup (pa_cons (pe_bltn (v := .ty T) hgT hT hv rfl hn hdb) (pa_cons (pe_bltn (v := .ty U) hgU hU hvU rfl hnU hdbU) pa_nil ht2) ht1)) pa_nil he2) he) (by decide) (by decide) he hpl) fun σ H Q h => ?_⟩
  obtain ⟨S, ρ, hm, hp⟩ := h
  refine ⟨S, ρ, hm, (Post.bind hp).post fun d v S1 H1 s1 r k => ⟨by show 2 ≤ sizeLine; decide, fun tp ntp => ?_⟩⟩
  obtain ⟨bb, eb, k⟩ := isTy_post k
  have s2 := Step.laid (o := .tup [V.ty T, V.ty U]) s1.sub ntp
  obtain ⟨t, ty, kt⟩ := isTy_ok (s1.sub.trans s2.hh) r eb
  cases bb with
  | true => exact ⟨v, tp, [.ty T, .ty U], t, [.type T, .type U], true, rfl, upd_same, .cons (.ty T) (.cons (.ty U) .nil), ty, kitAny_cons kt (fun z => nomatch z) (fun _ => rfl), (Post.step s2 k).val s2.sub (.bl _)⟩
  | false =>
    obtain ⟨cc, ec, k⟩ := isTy_post k
    have e' : tyNm d = tyNm d := rfl
    unfold isTy at eb ec
    split at eb
    · rename_i a' ea
      rw [ea] at ec
      have ec : (match kitB a' U with
        | some b => Res.ok b
        | none => .er) = .ok cc := ec
      split at eb
      · rename_i b1 k1
        split at ec
        · rename_i b2 k2
          cases eb; cases ec
          have ty' := tyx_of (s1.sub.trans s2.hh) r ea
          exact ⟨v, tp, [.ty T, .ty U], .type a', [.type T, .type U], _, rfl, upd_same, .cons (.ty T) (.cons (.ty U) .nil), ty', kitAny_cons (kit_ty k1) (fun _ => kitAny_cons (kit_ty k2) (fun h => by subst h; exact kitAny_nil) (fun h => h)) (fun z => nomatch z), (Post.step s2 k).val s2.sub (.bl _)⟩
        · cases ec
      · cases eb
    · cases eb
end
def isSc : D → Bool
  | .non => true
  | .bl _ => true
  | .int _ => true
  | .str _ => true
  | _ => false
def fSc (f : Env → Res D) : Env → Res D := fun ρ => match f ρ with
  | .ok d => if isSc d = true then .ok d else .er
  | _ => .er
def fNx {α : Type} (f : Env → Res α) : Env → Res α := fun ρ => match f ρ with
  | .ok d => .ok d
  | _ => .er
section
variable {K : PySem.W.Frag} {mg : Str → Option Value} {m m1 : Mds} {S H : Hp} {σ : L2.St} {ρ : Env}
/-- all slots as shared ones -/
theorem EnvM.peek (h : EnvM K mg m S H σ ρ) (w : Weak m m1) : ∃ S', Same S S' ∧ EnvM K mg m1 S' H σ ρ := by
  obtain ⟨hs, F, e⟩ := h
  have st : StF K mg m (fun _ => none) (fun _ => none) S F σ ρ H := ⟨⟨(fun a o z => nomatch z), (fun a o z => nomatch z), hs, (fun a _ => .inr rfl)⟩, e, fun i d _ a _ => rfl⟩
  obtain ⟨S', F', st', ss⟩ := st.weak w
  exact ⟨S', ss, st'.envM⟩
theorem Rep.sc {S S' : Hp} {v : V} {d : D} (h : Rep K mg S v d) (hd : isSc d = true) : Rep K mg S' v d := by
  cases h with
  | non => exact .non
  | bl b => exact .bl b
  | int b => exact .int b
  | str b => exact .str b
  | _ => cases hd
end
section
variable {X : Cx} {E : WX} {m m1 : Mds} {md : Md} {a b e : Expr} {es : List Expr} {f fa fb : Env → Res D} {g : Env → Res Bool} {pos p : Pos} {x : Str}
theorem je_borrow (h : JE X E m1 .sh e f) (w : Weak m m1 := by first | exact Weak.of (by decide) | exact weak_sh _ | (repeat (first | exact Weak.refl _ | exact weak_sh _ | apply Weak.cons | apply Weak.consSh))) : JE X E m .sh e (fSc f) := by
  refine ⟨PEimp h.pe fun σ H Q q => ?_⟩
  obtain ⟨S, ρ, hm, hp⟩ := q
  obtain ⟨S', ss, hm'⟩ := hm.peek w
  refine ⟨S', ρ, hm', ?_⟩
  unfold fSc at hp
  split at hp
  · rename_i d ed
    obtain ⟨hd, hp⟩ := Post.of_if hp
    rw [ed]
    intro v S1 H1 fp s1 o _ _
    exact hp v S H1 [] ⟨s1.hh, Same.refl _, hm.1.trans s1.hh, fun _ x => .inl x⟩ ⟨o.1.sc hd, rfl⟩ List.nodup_nil (fun a z => nomatch z)
  · exact hp.elim
theorem jt_borrow (h : JT X E m1 e g) (w : Weak m m1 := by first | exact Weak.of (by decide) | exact weak_sh _ | (repeat (first | exact Weak.refl _ | exact weak_sh _ | apply Weak.cons | apply Weak.consSh))) : JT X E m e (fNx g) := by
  refine ⟨PTimp h.pt fun σ H Q q => ?_⟩
  obtain ⟨S, ρ, hm, hp⟩ := q
  obtain ⟨S', ss, hm'⟩ := hm.peek w
  refine ⟨S', ρ, hm', ?_⟩
  unfold fNx at hp
  split at hp
  · rename_i d ed
    rw [ed]
    intro S1 H1 s1
    exact hp S H1 ⟨s1.hh, Same.refl _, hm.1.trans s1.hh, fun _ x => .inl x⟩
  · exact hp.elim
/-- an item of an own list: shared data -/
theorem je_itemO (i : Nat) (hb : JE X E m .sh b fb) (hmd : IsOw (mdAt m i) := by first | exact .inl rfl | exact .inr ⟨_, rfl⟩) (hN : X.N[i]? = some x := by rfl) (hv : Vis X.env.scope x := by first | exact Or.inl rfl | exact Or.inr (Or.inl rfl) | exact Or.inr (Or.inr rfl)) (hd : (x == ("__debug__" : Str)) = false := by decide)
    (hcd : (x == ("__classdict__" : Str)) = false := by decide) (hs : PlainIx b := by intro _ _; rfl) : JE X E m .sh (.Subscript (.Name x p) b pos) (f2 dIx (fV i) fb) := by
  refine ⟨PEimp (pe_ix ix_seq (pe_var hN hv hd hcd) hb.pe hs) fun σ H Q h => ?_⟩
  obtain ⟨S, ρ, hm, hp⟩ := h
  obtain ⟨hsub, F, e⟩ := id hm
  unfold f2 fV at hp
  split at hp
  · rename_i d ed
    obtain ⟨v, e1, o⟩ := e.at_ i d ed
    obtain ⟨q, vs, ds, rfl, rfl, e3, e4, e5, e6⟩ : ∃ q vs ds, v = .ref q ∧ d = .lst ds ∧ F i = [q] ∧ S q = none ∧ H q = some (.lst vs) ∧ RepL X.K X.mg S vs ds := by
      rcases hmd with hmd | ⟨q0, hmd⟩
      · rw [hmd] at o
        exact o
      · rw [hmd] at o
        exact o.2
    have hp : Post X.K X.mg (WE E σ) S H .sh ((fb ρ).bind fun y => dIx (.lst ds) y) Q := hp
    refine ⟨_, e1, S, ρ, hm, (Post.bind hp).post fun dy y S1 H1 s1 r k => ?_⟩
    cases dy with
    | int j =>
      cases r
      simp only [dIx] at k
      split at k
      · rename_i d' ed'
        obtain ⟨v', ev, rv⟩ := e6.atI ed'
        exact .inl ⟨q, vs, j, v', rfl, rfl, .inl (.inl (s1.hh _ _ e5)), ev, k.val s1.sub (rv.mono s1.ss)⟩
      · exact k.elim
    | _ => exact k.elim
  · exact hp.elim
end
end Da
namespace Da
open PySem PySem.Spec L2
def trD : D → Res Bool
  | .non => .ok false
  | .bl b => .ok b
  | .int i => .ok (i != 0)
  | .str z => if szOk z.length = true then .ok ((z.length : Int) != 0) else .er
  | .lst xs => .ok (!xs.isEmpty)
  | .frl xs => .ok (!xs.isEmpty)
  | .tup xs => .ok (!xs.isEmpty)
  | _ => .er
def fTr (f : Env → Res D) : Env → Res Bool := fun ρ => (f ρ).bind trD
section
variable {K : PySem.W.Frag} {mg : Str → Option Value}
theorem RepL.empty {S : Hp} {vs : List V} {ds : List D} (r : RepL K mg S vs ds) : (!ds.isEmpty) = !vs.isEmpty := by
  have := r.len
  cases vs with
  | nil =>
    cases ds with
    | nil => rfl
    | cons _ _ => simp at this
  | cons _ _ =>
    cases ds with
    | nil => simp at this
    | cons _ _ => rfl
theorem tru_of {S H : Hp} {v : V} {d : D} {b : Bool} (hs : Same S H) (r : Rep K mg S v d) (h : trD d = .ok b) : TruV K v H b := by
  cases d with
  | non => cases r; cases h; rfl
  | bl c => cases r; cases h; rfl
  | int c => cases r; cases h; rfl
  | str z =>
    cases r
    simp only [trD] at h
    split at h
    · rename_i hz
      cases h
      exact ⟨szOk_ok hz, rfl⟩
    · cases h
  | lst xs =>
    obtain ⟨a, vs, rfl, ha, rv⟩ := r.of_lst
    simp only [trD] at h
    cases h
    exact .inl ⟨vs, .inl (.inl (hs _ _ ha)), rv.empty⟩
  | frl xs =>
    obtain ⟨a, vs, rfl, ha, rv⟩ := r.of_frl
    simp only [trD] at h
    cases h
    exact .inl ⟨vs, same_l hs ha, rv.empty⟩
  | tup xs =>
    obtain ⟨a, vs, rfl, ha, rv⟩ := r.of_tup
    simp only [trD] at h
    cases h
    exact .inr (.inl ⟨vs, same_t hs ha, rv.empty⟩)
  | _ => cases h
end
section
variable {X : Cx} {E : WX} {m : Mds} {md : Md} {a b c e : Expr} {es : List Expr} {f fa fb fc : Env → Res D} {fs : Env → Res (List D)} {pos p p1 p2 : Pos} {x : Str}
theorem jt_tr (h : JE X E m .sh e f) (he : ∀ whole, isTrue e X.env whole = (do let v ← whole; standAt e.pos; holding [v] (truthy v)) := by intro _; rfl) : JT X E m e (fTr f) := by
  refine ⟨PTimp (pt_truth h.pe he) fun σ H Q q => ?_⟩
  obtain ⟨S, ρ, hm, hp⟩ := q
  refine ⟨S, ρ, hm, (PostW.bind hp).post fun d v S1 H1 s1 r k => ?_⟩
  cases ed : trD d with
  | ok bb =>
    rw [ed] at k
    exact ⟨bb, tru_of s1.sub r ed, k S1 H1 (Step.refl s1.sub)⟩
  | ex c fs =>
    exfalso
    cases d with
    | str z => simp only [trD] at ed; split at ed <;> cases ed
    | _ => simp only [trD] at ed; cases ed
  | er => rw [ed] at k; exact k.elim
def fChain (g g' : D → D → Res D) (fa fb fc : Env → Res D) : Env → Res D := fun ρ => (fa ρ).bind fun x => (fb ρ).bind fun y => (g x y).bind fun z => match z with
  | .bl true => (fc ρ).bind fun w => g' y w
  | .bl false => .ok (.bl false)
  | _ => .er
theorem chain_ok {K : PySem.W.Frag} {mg : Str → Option Value} {r r' : R2} {g g' : D → D → Res D} (hr : OpD K mg .sh r g) (hr' : OpD K mg .sh r' g') {σ : L2.St} {H : Hp} {Q : VK} (h : tE K mg E m .sh (fChain g g' fa fb fc) σ H Q) : tChain r r' (tE K mg E m .sh fa) (tE K mg E m .sh fb) (tE K mg E m .sh fc) σ H Q := by
  obtain ⟨S, ρ, hm, hp⟩ := h
  refine ⟨S, ρ, hm, (Post.bind hp).post fun dx v S1 H1 s1 r1 h1 => ⟨S1, ρ, hm.step s1, (Post.bind h1).post fun dy w S2 H2 s2 r2 h2 => ?_⟩⟩
  refine hr _ S2 H2 v w dx dy _ s2.sub (r1.mono s2.ss) r2 ((Post.bind h2).post fun dz z S3 H3 s3 r3 h3 => ?_)
  cases dz with
  | bl k =>
    cases r3
    refine ⟨k, rfl, ?_⟩
    cases k with
    | true => exact ⟨S3, ρ, (hm.step s1).step (s2.trans s3), (Post.bind h3).post fun dw u S4 H4 s4 r4 h4 => hr' _ S4 H4 w u dy dw Q s4.sub (r2.mono (s3.ss.trans s4.ss)) r4 h4⟩
    | false => exact Post.val h3 s3.sub (.bl false)
  | _ => exact h3.elim
theorem je_chain {op op' : CmpOp} {r r' : R2} {g g' : D → D → Res D} (ho : OpR X (compareOp op) r) (ho' : OpR X (compareOp op') r') (hr : OpD X.K X.mg .sh r g) (hr' : OpD X.K X.mg .sh r' g') (ha : JE X E m .sh a fa) (hb : JE X E m .sh b fb) (hc : JE X E m .sh c fc)
    (hm : lastMarks [op, op'] [b, c] = false := by with_unfolding_all rfl) : JE X E m .sh (.Compare a [op, op'] [b, c] pos) (fChain g g' fa fb fc) := ⟨PEimp (pe_chain ho ho' ha.pe hb.pe hc.pe hm) fun σ H Q h => chain_ok hr hr' h⟩
theorem jt_chain {op op' : CmpOp} {r r' : R2} {g g' : D → D → Res D} (ho : OpR X (compareOp op) r) (ho' : OpR X (compareOp op') r') (hr : OpD X.K X.mg .sh r g) (hr' : OpD X.K X.mg .sh r' g') (ha : JE X E m .sh a fa) (hb : JE X E m .sh b fb) (hc : JE X E m .sh c fc)
    (hm : lastMarks [op, op'] [b, c] = false := by with_unfolding_all rfl) : JT X E m (.Compare a [op, op'] [b, c] pos) (fB (fChain g g' fa fb fc)) := ⟨PTimp (pt_chain ho ho' ha.pe hb.pe hc.pe hm) fun σ H Q h => tT_of (fun σ H Q h => chain_ok hr hr' h) h⟩
def dList : D → Res D
  | .lst xs => .ok (.lst xs)
  | .frl xs => .ok (.lst xs)
  | .tup xs => .ok (.lst xs)
  | _ => .er
def dTuple : D → Res D
  | .lst xs => .ok (.tup xs)
  | .frl xs => .ok (.tup xs)
  | .tup xs => .ok (.tup xs)
  | _ => .er
theorem je_list (hm : X.mg "list" = none) (ha : JA X E m [e] fs) (hmd : md = .sh ∨ md = .ow := by first | exact .inl rfl | exact .inr rfl) (hg : Gl X "list" := by rfl) (he : starEach [e] X.env = (false, eval e X.env) :: starEach [] X.env := by rfl) : JE X E m md (.Call (.Name "list" p) [e] [] pos) (fOn (on1 dList) fs) :=
  je_callTy call_list_of (calld1 fun E S H x d Q hs rx hp => by
    cases d with
    | lst xs =>
      obtain ⟨a, vs, rfl, ha, rv⟩ := rx.of_lst
      exact ⟨a, vs, rfl, .inl (.inl (.inl (hs _ _ ha))), fun l hl => Post.list hmd hp hs rv hl⟩
    | frl xs =>
      obtain ⟨a, vs, rfl, ha, rv⟩ := rx.of_frl
      exact ⟨a, vs, rfl, .inl (same_l hs ha), fun l hl => Post.list hmd hp hs rv hl⟩
    | tup xs =>
      obtain ⟨a, vs, rfl, ha, rv⟩ := rx.of_tup
      exact ⟨a, vs, rfl, .inr (same_t hs ha), fun l hl => Post.list hmd hp hs rv hl⟩
    | _ => exact hp.elim) hm ha hg (by decide +kernel) (by decide) (by decide) he (by rfl)
theorem je_tuple (hm : X.mg "tuple" = none) (ha : JA X E m [e] fs) (hg : Gl X "tuple" := by rfl) (he : starEach [e] X.env = (false, eval e X.env) :: starEach [] X.env := by rfl) : JE X E m .sh (.Call (.Name "tuple" p) [e] [] pos) (fOn (on1 dTuple) fs) :=
  je_callTy call_tuple_of (calld1 fun E S H x d Q hs rx hp => by
    cases d with
    | lst xs =>
      obtain ⟨a, vs, rfl, ha, rv⟩ := rx.of_lst
      exact ⟨a, vs, rfl, .inl ⟨.inl (.inl (hs _ _ ha)), fun l hl => Post.tup hp hs rv hl⟩⟩
    | frl xs =>
      obtain ⟨a, vs, rfl, ha, rv⟩ := rx.of_frl
      exact ⟨a, vs, rfl, .inl ⟨same_l hs ha, fun l hl => Post.tup hp hs rv hl⟩⟩
    | tup xs =>
      have hp : Post X.K X.mg E S H .sh (.ok (.tup xs)) Q := hp
      have hv := hp.val hs rx
      obtain ⟨a, vs, rfl, ha, rv⟩ := rx.of_tup
      exact ⟨a, vs, rfl, .inr ⟨same_t hs ha, hv⟩⟩
    | _ => exact hp.elim) hm ha hg (by decide +kernel) (by decide) (by decide) he (by rfl)
def rgnOk (i j : Int) : Bool := stuck (rngOk i j = true ∧ (j - i).toNat ≤ 16777216)
def fTupleR1 (f : Env → Res D) : Env → Res D := fun ρ => (f ρ).bind fun d => match d with
  | .int j => if rgnOk 0 j = true then .ok (.tup (rng 0 (j - 0).toNat)) else .er
  | _ => .er
def intsD : List D → Option (List Int)
  | [] => some []
  | .int i :: r => match intsD r with
    | some ns => some (i :: ns)
    | none => none
  | _ => none
def boolsD : List D → Option (List Bool)
  | [] => some []
  | .bl i :: r => match boolsD r with
    | some ns => some (i :: ns)
    | none => none
  | _ => none
theorem intsD_ok : ∀ {ds : List D} {ns : List Int}, intsD ds = some ns → ds = ns.map D.int
  | [], ns, h => by cases h; rfl
  | .int i :: r, ns, h => by
    simp only [intsD] at h
    split at h
    · rename_i ms e
      cases h
      rw [intsD_ok e]
      rfl
    · cases h
  | .non :: r, ns, h => by cases h
  | .bl _ :: r, ns, h => by cases h
  | .str _ :: r, ns, h => by cases h
  | .lst _ :: r, ns, h => by cases h
  | .tup _ :: r, ns, h => by cases h
  | .frl _ :: r, ns, h => by cases h
  | .dic _ _ :: r, ns, h => by cases h
  | .dit _ _ :: r, ns, h => by cases h
  | .obj _ _ _ :: r, ns, h => by cases h
theorem boolsD_ok : ∀ {ds : List D} {ns : List Bool}, boolsD ds = some ns → ds = ns.map D.bl
  | [], ns, h => by cases h; rfl
  | .bl i :: r, ns, h => by
    simp only [boolsD] at h
    split at h
    · rename_i ms e
      cases h
      rw [boolsD_ok e]
      rfl
    · cases h
  | .non :: r, ns, h => by cases h
  | .int _ :: r, ns, h => by cases h
  | .str _ :: r, ns, h => by cases h
  | .lst _ :: r, ns, h => by cases h
  | .tup _ :: r, ns, h => by cases h
  | .frl _ :: r, ns, h => by cases h
  | .dic _ _ :: r, ns, h => by cases h
  | .dit _ _ :: r, ns, h => by cases h
  | .obj _ _ _ :: r, ns, h => by cases h
@[simp] theorem intsD_map : ∀ ns : List Int, intsD (ns.map D.int) = some ns
  | [] => rfl
  | n :: ns => by simp only [List.map_cons, intsD, intsD_map ns]
@[simp] theorem boolsD_map : ∀ ns : List Bool, boolsD (ns.map D.bl) = some ns
  | [] => rfl
  | n :: ns => by simp only [List.map_cons, boolsD, boolsD_map ns]
def dSum : D → Res D
  | .lst xs => match intsD xs with
    | some ns => .ok (.int ns.sum)
    | none => .er
  | _ => .er
def dAll : D → Res D
  | .lst xs => match boolsD xs with
    | some ns => .ok (.bl (ns.all id))
    | none => .er
  | _ => .er
theorem je_sum (hm : X.mg "sum" = none) (ha : JA X E m [e] fs) (hc : X.calm = true := by rfl) (hg : Gl X "sum" := by rfl) (he : starEach [e] X.env = (false, eval e X.env) :: starEach [] X.env := by rfl) : JE X E m .sh (.Call (.Name "sum" p) [e] [] pos) (fOn (on1 dSum) fs) :=
  je_callB (cr_sum hc) (calld1 fun E S H x d Q hs rx hp => by
    cases d with
    | lst xs =>
      obtain ⟨a, vs, rfl, ha, rv⟩ := rx.of_lst
      simp only [dSum] at hp
      split at hp
      · rename_i ns en
        rw [intsD_ok en] at rv
        exact ⟨a, ns, rfl, by rw [← rv.ints]; exact .inl (.inl (hs _ _ ha)), hp.val hs (.int _)⟩
      · exact hp.elim
    | _ => exact (show False from hp).elim) hm ha hg (by decide +kernel) (by decide) (by decide) he (by rfl)
theorem je_all (hm : X.mg "all" = none) (ha : JA X E m [e] fs) (hc : X.calm = true := by rfl) (hg : Gl X "all" := by rfl) (he : starEach [e] X.env = (false, eval e X.env) :: starEach [] X.env := by rfl) : JE X E m .sh (.Call (.Name "all" p) [e] [] pos) (fOn (on1 dAll) fs) :=
  je_callB (cr_all hc) (calld1 fun E S H x d Q hs rx hp => by
    cases d with
    | lst xs =>
      obtain ⟨a, vs, rfl, ha, rv⟩ := rx.of_lst
      simp only [dAll] at hp
      split at hp
      · rename_i ns en
        rw [boolsD_ok en] at rv
        exact ⟨a, ns, rfl, by rw [← rv.bls]; exact .inl (.inl (hs _ _ ha)), hp.val hs (.bl _)⟩
      · exact hp.elim
    | _ => exact (show False from hp).elim) hm ha hg (by decide +kernel) (by decide) (by decide) he (by rfl)
def repOk (n : Nat) (k : Int) : Bool := stuck ((-(9223372036854775808) ≤ k ∧ k < 9223372036854775808) ∧ szOk (n * k.toNat) = true)
def dRep : D → D → Res D
  | .lst xs, .int k => if repOk xs.length k = true then .ok (.lst (List.replicate k.toNat xs).flatten) else .er
  | _, _ => .er
theorem RepL.rep {K : PySem.W.Frag} {mg : Str → Option Value} {S : Hp} {vs : List V} {ds : List D} (r : RepL K mg S vs ds) : ∀ k : Nat, RepL K mg S (List.replicate k vs).flatten (List.replicate k ds).flatten
  | 0 => .nil
  | k + 1 => by
    rw [List.replicate_succ, List.replicate_succ, List.flatten_cons, List.flatten_cons]
    exact r.append (r.rep k)
theorem je_rep (ha : JE X E m .sh a fa) (hb : JE X E m .sh b fb) (hmd : md = .sh ∨ md = .ow := by first | exact .inl rfl | exact .inr rfl) : JE X E m md (.BinOp a .Mult b pos) (f2 dRep fa fb) := je_op op_rep (fun E S H x y dx dy Q hs rx ry h => by
  cases dx with
  | lst xs =>
    cases dy with
    | int k =>
      obtain ⟨hz, h⟩ := Post.of_if h
      have hz := stuck_iff.mp hz
      have h12 := hz.1
      obtain ⟨l, vs, rfl, hl, rv⟩ := rx.of_lst
      cases ry
      have h1 := h12.1
      have h2 := h12.2
      exact ⟨l, k, vs, rfl, rfl, hs _ _ hl, by omega, by omega, by rw [rv.len]; exact szOk_ok hz.2, fun p hp => Post.list hmd h hs (rv.rep _) hp⟩
    | _ => exact h.elim
  | _ => exact h.elim) ha hb
end
end Da
namespace Da
open PySem PySem.Spec L2
section
variable {P : Program} {w : World} {K : PySem.W.Frag} {mg : Str → Option Value} {base h : Heap}
theorem defAt_mk {x qual : Str} {st : Stmt} {ps : List Str} {f : Addr} {oc : Value} {od an : Option Addr} {osl : Array (Option Value)} {kV doc pm cdv ct : Value} (X : K.In h) (G : h.Ns mainGlobals mg) (a : PySem.W.nsIn K mainGlobals x = some (some (.ref f)))
    (l : K.lookup f = some ⟨oc, od, .func (PySem.W.fnOf x qual (defArgs st) (defBody st) (defScope st) .none kV doc pm an cdv ct), osl⟩) (c : PySem.W.codeIn K cdv qual = true) (k : PySem.W.keepIn K (.ref f) = true)
    (hb : ∀ (kV doc pm : Value) (an : Option Addr) (cdv ct : Value) (us : List Value), us.length = ps.length → bindArgs (PySem.W.fnOf x qual (defArgs st) (defBody st) (defScope st) .none kV doc pm an cdv ct) ⟨us, []⟩ = pure (ps.zip us)) : DefAt K mg x qual st ps := by
  have Fn := fun_mk (st := st) l c k
  exact ⟨f, _, Fn, Fn.binds hb, PySem.W.mg_of X G a⟩
/-- what the law is asked -/
def spLaw (K : PySem.W.Frag) : Sp := fun vs H Q _ => ∃ (a : Addr) (ns : List Int), vs = [.ref a] ∧ SqL K H a (ns.map V.int) ∧ ns.length ≤ 63 ∧ (∀ z ∈ ns, Builtin.Int.intBits z ≤ 1048576) ∧ ∀ H', Q (.bl true) H'
theorem law_imp {k : Nat} {f : Addr} {fd : FuncData} {g : List D → Res D} (G : FnOk P w K mg base (L2.CX P w) k f fd ["script"] (spD K mg 1 .sh g)) (hg : ∀ ns : List Int, ns.length ≤ 63 → (∀ z ∈ ns, Builtin.Int.intBits z ≤ 1048576) → g [.frl (ns.map D.int)] = .ok (.bl true)) :
    FnOk P w K mg base (L2.CX P w) k f fd ["script"] (spLaw K) := G.imp fun vs H Q E hsp => by
  obtain ⟨a, ns, rfl, hS, hl, hb, q⟩ := hsp
  refine ⟨H, [.frl (ns.map D.int)], Same.refl H, .cons (.frl hS (by rw [List.length_map, List.length_map]) (RepL.of_ints ns).at_) .nil, ?_⟩
  show Post K mg E H H .sh (chk 1 g [.frl (ns.map D.int)]) Q
  unfold chk
  rw [if_pos (by rfl), hg ns hl hb]
  intro v S' H' fp s' o _ _
  cases o.1
  exact q H'
theorem cx_none {H : Hp} {s s' : Shared} {e : Value} (h : L2.CX P w [] H s (fun _ _ _ => False) e s') : False := by
  obtain ⟨_, _, _, _, _, _, _, _, _, _, _, _, z⟩ := h
  exact z
theorem walk_end {l : PySem.W.OpenLaw} {q : Program} {loose : List Str} {XP : (Str → Option Value) → Heap → Prop} {YP : World → Heap → Prop} {d : DefRec} {K : Params → PySem.W.Frag} {k : Nat} (hn : l.most = some 63) (hdf : d.params.defaults = []) (hr : Room k callerA)
    (hY : ∀ (w : World) (h : Heap), YP w h → (K w.params).In h)
    (F : ∀ (w : World) (mg : Str → Option Value) (fa : Addr) (h : Heap), (K w.params).In h → h.Ns mainGlobals mg → mg d.name = some (.ref fa) →
      ∃ fd : FuncData, (∀ (s : Shared) (u : Value), BindsTo s fd ⟨[u], []⟩ [("script", u)]) ∧ ∀ base : Heap, (K w.params).In base → base.Ns mainGlobals mg → FnOk l.prog w (K w.params) mg base (L2.CX l.prog w) k fa fd ["script"] (spLaw (K w.params))) :
    PySem.W.WalkO q loose XP YP l.row.toRowW d [] (fun f vs => PySem.call f vs) :=
  L2.walk_ofB (n := 63) (k := k) (x := "script") (CX := fun w => L2.CX l.prog w) (sp := fun w => spLaw (K w.params)) hn (by decide) hdf hr hY F (fun w H a ns hl hb _ hS => ⟨a, ns, rfl, hS, hl, hb, fun _ => rfl⟩) fun w H s e s' z => cx_none z
end
end Da
namespace Da
open PySem PySem.Spec L2
section
variable {ρ : Env} {f fa fb fc : Env → Res D} {g : D → Res D} {g2 : D → D → Res D} {fs : Env → Res (List D)} {c ga gb : Env → Res Bool} {F G : FS} {d e : D} {i : Nat}
@[simp] theorem fC_ap : fC d ρ = .ok d := rfl
@[simp] theorem fV_nil : fV i [] = .er := by simp [fV]
@[simp] theorem fV_zero {x : D} {r : Env} : fV 0 (some x :: r) = .ok x := rfl
@[simp] theorem fV_succ {x : Option D} {r : Env} : fV (i + 1) (x :: r) = fV i r := by
  unfold fV
  rw [List.getElem?_cons_succ]
@[simp] theorem f1_ap : f1 g fa ρ = (fa ρ).bind g := rfl
@[simp] theorem f2_ap : f2 g2 fa fb ρ = (fa ρ).bind fun x => (fb ρ).bind fun y => g2 x y := rfl
@[simp] theorem fA0_ap : fA0 ρ = .ok [] := rfl
@[simp] theorem fA_ap : fA fa fs ρ = (fa ρ).bind fun x => (fs ρ).bind fun xs => .ok (x :: xs) := rfl
@[simp] theorem fOn_ap {g : List D → Res D} : fOn g fs ρ = (fs ρ).bind g := rfl
@[simp] theorem fB_ap : fB f ρ = (f ρ).bind asB := rfl
@[simp] theorem fTr_ap : fTr f ρ = (f ρ).bind trD := rfl
@[simp] theorem fBv_ap : fBv c ρ = (c ρ).bind fun b => .ok (.bl b) := rfl
@[simp] theorem asB_bl {b : Bool} : asB (.bl b) = .ok b := rfl
@[simp] theorem fAnd_ap : fAnd ga gb ρ = (ga ρ).bind fun c => if c = true then gb ρ else .ok false := rfl
@[simp] theorem fOr_ap : fOr ga gb ρ = (ga ρ).bind fun c => if c = true then .ok true else gb ρ := rfl
@[simp] theorem fNot_ap : fNot ga ρ = (ga ρ).bind fun c => .ok (!c) := rfl
@[simp] theorem fIf_ap : fIf c fa fb ρ = (c ρ).bind fun b => if b = true then fa ρ else fb ρ := rfl
@[simp] theorem fL_ap : fL f ρ = (f ρ).bind asL := rfl
@[simp] theorem fR1_ap : fR1 fs ρ = (fs ρ).bind gRng1 := rfl
@[simp] theorem fR2_ap : fR2 fs ρ = (fs ρ).bind gRng2 := rfl
@[simp] theorem asL_lst {xs : List D} : asL (.lst xs) = .ok xs := rfl
@[simp] theorem asL_frl {xs : List D} : asL (.frl xs) = .ok xs := rfl
@[simp] theorem asL_tup {xs : List D} : asL (.tup xs) = .ok xs := rfl
@[simp] theorem on1_ap {g : D → Res D} : on1 g [d] = g d := rfl
@[simp] theorem on2_ap {g : D → D → Res D} : on2 g [d, e] = g d e := rfl
@[simp] theorem gN_ap : gN i d ρ = .ok (ρ.set i (some d)) := rfl
@[simp] theorem fNext_ap : fNext ρ = .ok (.nx ρ) := rfl
@[simp] theorem fBrk_ap : fBrk ρ = .ok (.bk ρ) := rfl
@[simp] theorem fCnt_ap : fCnt ρ = .ok (.ct ρ) := rfl
@[simp] theorem fSet_ap : fSet i f ρ = lift (f ρ) ρ fun d => .ok (.nx (ρ.set i (some d))) := rfl
@[simp] theorem fRet_ap : fRet f ρ = lift (f ρ) ρ fun d => .ok (.rt d) := rfl
@[simp] theorem fRetN_ap : fRetN ρ = .ok (.rt .non) := rfl
@[simp] theorem fIfS_ap : fIfS c F G ρ = lift (c ρ) ρ fun b => if b = true then F ρ else G ρ := rfl
@[simp] theorem fDrop_ap : fDrop f ρ = lift (f ρ) ρ fun _ => .ok (.nx ρ) := rfl
@[simp] theorem fAug_ap : fAug i g2 f ρ = lift ((fV i ρ).bind fun x => (f ρ).bind fun y => g2 x y) ρ fun d => .ok (.nx (ρ.set i (some d))) := rfl
theorem fSeq_nx {ρ' : Env} (h : F ρ = .ok (.nx ρ')) : fSeq F G ρ = G ρ' := by unfold fSeq; rw [h]
/-- a block behind an end -/
def andThen (o : Res Fl) (G : FS) : Res Fl := match o with
  | .ok (.nx ρ') => G ρ'
  | o => o
@[simp] theorem fSeq_ap : fSeq F G ρ = andThen (F ρ) G := rfl
@[simp] theorem andThen_nx {ρ' : Env} : andThen (.ok (.nx ρ')) G = G ρ' := rfl
@[simp] theorem andThen_rt {d : D} : andThen (.ok (.rt d)) G = .ok (.rt d) := rfl
@[simp] theorem andThen_bk {ρ' : Env} : andThen (.ok (.bk ρ')) G = .ok (.bk ρ') := rfl
@[simp] theorem andThen_ct {ρ' : Env} : andThen (.ok (.ct ρ')) G = .ok (.ct ρ') := rfl
@[simp] theorem andThen_xc {c : Str} {fs : List (Str × D)} {ρ' : Env} : andThen (.ok (.xc c fs ρ')) G = .ok (.xc c fs ρ') := rfl
@[simp] theorem andThen_er : andThen .er G = .er := rfl
@[simp] theorem andThen_ite {p : Prop} [Decidable p] {a b : Res Fl} : andThen (if p then a else b) G = if p then andThen a G else andThen b G := by split <;> rfl
@[simp] theorem fApp_zero {xs : List D} {r : Env} : fApp 0 f (some (.lst xs) :: r) = lift (f (some (.lst xs) :: r)) (some (.lst xs) :: r) fun d => if szOk (xs.length + 1) = true then .ok (.nx (some (.lst (xs ++ [d])) :: r)) else .er := rfl
@[simp] theorem dAdd_int {i j : Int} : dAdd (.int i) (.int j) = .ok (.int (i + j)) := rfl
@[simp] theorem dSub_int {i j : Int} : dSub (.int i) (.int j) = .ok (.int (i - j)) := rfl
theorem dMul_int {i j : Int} (h : mulOk i j = true) : dMul (.int i) (.int j) = .ok (.int (i * j)) := if_pos h
@[simp] theorem dLt_int {i j : Int} : dLt (.int i) (.int j) = .ok (.bl (decide (i < j))) := rfl
@[simp] theorem dLe_int {i j : Int} : dLe (.int i) (.int j) = .ok (.bl (decide (i ≤ j))) := rfl
@[simp] theorem dGt_int {i j : Int} : dGt (.int i) (.int j) = .ok (.bl (decide (j < i))) := rfl
@[simp] theorem dGe_int {i j : Int} : dGe (.int i) (.int j) = .ok (.bl (decide (j ≤ i))) := rfl
@[simp] theorem dI_yes {g : Int → Int → Int} {i j : Int} : dI yes2 g (.int i) (.int j) = .ok (.int (g i j)) := rfl
@[simp] theorem dInt_int {i : Int} : dInt (.int i) = .ok (.int i) := rfl
@[simp] theorem dNeg_int {i : Int} : dNeg (.int i) = .ok (.int (-i)) := rfl
@[simp] theorem dAbs_int {i : Int} : dAbs (.int i) = .ok (.int (if i < 0 then -i else i)) := rfl
@[simp] theorem dMax2_int {i j : Int} : dMax2 (.int i) (.int j) = .ok (.int (if j > i then j else i)) := rfl
@[simp] theorem dMin2_int {i j : Int} : dMin2 (.int i) (.int j) = .ok (.int (if j < i then j else i)) := rfl
@[simp] theorem dLen_lst {xs : List D} : dLen (.lst xs) = .ok (.int xs.length) := rfl
@[simp] theorem dLen_frl {xs : List D} : dLen (.frl xs) = .ok (.int xs.length) := rfl
@[simp] theorem dLen_tup {xs : List D} : dLen (.tup xs) = .ok (.int xs.length) := rfl
@[simp] theorem eqD_int {i j : Int} : eqD (.int i) (.int j) = .ok (i == j) := by
  unfold eqD D.py
  simp only [SeqAt.shaped, PyData.canLay0, PyData.depth, PyData.eqv]
  rfl
@[simp] theorem dEq_int {i j : Int} : dEq (.int i) (.int j) = .ok (.bl (i == j)) := by unfold dEq; rw [eqD_int]; rfl
@[simp] theorem dNe_int {i j : Int} : dNe (.int i) (.int j) = .ok (.bl (!(i == j))) := by unfold dNe; rw [eqD_int]; rfl
theorem log2_lt {n k : Nat} (h : n < 2 ^ k) (hk : 0 < k) : n.log2 < k := PySem.Flt.log2_lt_of hk h
theorem mulOk_of {i j : Int} {a b : Nat} (hi : i.natAbs < 2 ^ a) (hj : j.natAbs < 2 ^ b) (ha : 0 < a := by decide) (hb : 0 < b := by decide) (hab : a + b ≤ 1000000 := by decide) : mulOk i j = true := mulOk_yes (wide_mul hi hj ha hb hab)
theorem mul64 {i j : Int} (hi : i.natAbs < 18446744073709551616) (hj : j.natAbs < 18446744073709551616) : mulOk i j = true := mulOk_of (a := 64) (b := 64) hi hj
/-- the greatest divisor's bound, never reckoned out -/
def Lim : Nat := 2 ^ 9000
theorem lt_lim {n : Nat} (h : n < 18446744073709551616) : n < Lim := Nat.lt_of_lt_of_le (show n < 2 ^ 64 from h) (Nat.pow_le_pow_right (by decide) (by decide))
theorem dDiv_pos {i j : Int} (h : 0 < j) (h9 : j.natAbs < Lim) : dDiv (.int i) (.int j) = .ok (.int (i / j)) := by
  show (if divOk i j = true then Res.ok (D.int (i.fdiv j)) else .er) = _
  rw [if_pos (by
    exact stuck_iff.mpr ⟨by omega, log2_lt h9 (by decide)⟩), Int.fdiv_eq_ediv_of_nonneg i (by omega)]
theorem dDiv_64 {i j : Int} (h : 0 < j) (h9 : j < 18446744073709551616) : dDiv (.int i) (.int j) = .ok (.int (i / j)) := dDiv_pos h (lt_lim (by omega))
theorem dMod_pos {i j : Int} (h : 0 < j) : dMod (.int i) (.int j) = .ok (.int (i % j)) := by
  show (if modOk i j = true then Res.ok (D.int (i.fmod j)) else .er) = _
  rw [if_pos (show modOk i j = true from decide_eq_true (by omega)), Int.fmod_eq_emod_of_nonneg i (by omega)]
theorem kb_NoneType_int : kitB "NoneType" "int" = some false := by decide +kernel
theorem kb_bool_int : kitB "bool" "int" = some true := by decide +kernel
theorem kb_int_int : kitB "int" "int" = some true := by decide +kernel
theorem kb_str_int : kitB "str" "int" = some false := by decide +kernel
theorem kb_list_int : kitB "list" "int" = some false := by decide +kernel
theorem kb_tuple_int : kitB "tuple" "int" = some false := by decide +kernel
theorem kb_dict_int : kitB "dict" "int" = some false := by decide +kernel
@[simp] theorem isTy_int_non : isTy "int" .non = .ok false := by unfold isTy tyNm; simp only [kb_NoneType_int]
@[simp] theorem isTy_int_bl {b : Bool} : isTy "int" (.bl b) = .ok true := by unfold isTy tyNm; simp only [kb_bool_int]
@[simp] theorem isTy_int_int {b : Int} : isTy "int" (.int b) = .ok true := by unfold isTy tyNm; simp only [kb_int_int]
@[simp] theorem isTy_int_str {b : Str} : isTy "int" (.str b) = .ok false := by unfold isTy tyNm; simp only [kb_str_int]
@[simp] theorem isTy_int_lst {b : List D} : isTy "int" (.lst b) = .ok false := by unfold isTy tyNm; simp only [kb_list_int]
@[simp] theorem isTy_int_frl {b : List D} : isTy "int" (.frl b) = .ok false := by unfold isTy tyNm; simp only [kb_list_int]
@[simp] theorem isTy_int_tup {b : List D} : isTy "int" (.tup b) = .ok false := by unfold isTy tyNm; simp only [kb_tuple_int]
@[simp] theorem isTy_int_dic {k : List Key} {b : List D} : isTy "int" (.dic k b) = .ok false := by unfold isTy tyNm; simp only [kb_dict_int]
@[simp] theorem isTy_int_dit {k : List (List Key)} {b : List D} : isTy "int" (.dit k b) = .ok false := by unfold isTy tyNm; simp only [kb_dict_int]
theorem kb_NoneType_bool : kitB "NoneType" "bool" = some false := by decide +kernel
theorem kb_bool_bool : kitB "bool" "bool" = some true := by decide +kernel
theorem kb_int_bool : kitB "int" "bool" = some false := by decide +kernel
theorem kb_str_bool : kitB "str" "bool" = some false := by decide +kernel
theorem kb_list_bool : kitB "list" "bool" = some false := by decide +kernel
theorem kb_tuple_bool : kitB "tuple" "bool" = some false := by decide +kernel
theorem kb_dict_bool : kitB "dict" "bool" = some false := by decide +kernel
@[simp] theorem isTy_bool_non : isTy "bool" .non = .ok false := by unfold isTy tyNm; simp only [kb_NoneType_bool]
@[simp] theorem isTy_bool_bl {b : Bool} : isTy "bool" (.bl b) = .ok true := by unfold isTy tyNm; simp only [kb_bool_bool]
@[simp] theorem isTy_bool_int {b : Int} : isTy "bool" (.int b) = .ok false := by unfold isTy tyNm; simp only [kb_int_bool]
@[simp] theorem isTy_bool_str {b : Str} : isTy "bool" (.str b) = .ok false := by unfold isTy tyNm; simp only [kb_str_bool]
@[simp] theorem isTy_bool_lst {b : List D} : isTy "bool" (.lst b) = .ok false := by unfold isTy tyNm; simp only [kb_list_bool]
@[simp] theorem isTy_bool_frl {b : List D} : isTy "bool" (.frl b) = .ok false := by unfold isTy tyNm; simp only [kb_list_bool]
@[simp] theorem isTy_bool_tup {b : List D} : isTy "bool" (.tup b) = .ok false := by unfold isTy tyNm; simp only [kb_tuple_bool]
@[simp] theorem isTy_bool_dic {k : List Key} {b : List D} : isTy "bool" (.dic k b) = .ok false := by unfold isTy tyNm; simp only [kb_dict_bool]
@[simp] theorem isTy_bool_dit {k : List (List Key)} {b : List D} : isTy "bool" (.dit k b) = .ok false := by unfold isTy tyNm; simp only [kb_dict_bool]
theorem kb_NoneType_list : kitB "NoneType" "list" = some false := by decide +kernel
theorem kb_bool_list : kitB "bool" "list" = some false := by decide +kernel
theorem kb_int_list : kitB "int" "list" = some false := by decide +kernel
theorem kb_str_list : kitB "str" "list" = some false := by decide +kernel
theorem kb_list_list : kitB "list" "list" = some true := by decide +kernel
theorem kb_tuple_list : kitB "tuple" "list" = some false := by decide +kernel
theorem kb_dict_list : kitB "dict" "list" = some false := by decide +kernel
@[simp] theorem isTy_list_non : isTy "list" .non = .ok false := by unfold isTy tyNm; simp only [kb_NoneType_list]
@[simp] theorem isTy_list_bl {b : Bool} : isTy "list" (.bl b) = .ok false := by unfold isTy tyNm; simp only [kb_bool_list]
@[simp] theorem isTy_list_int {b : Int} : isTy "list" (.int b) = .ok false := by unfold isTy tyNm; simp only [kb_int_list]
@[simp] theorem isTy_list_str {b : Str} : isTy "list" (.str b) = .ok false := by unfold isTy tyNm; simp only [kb_str_list]
@[simp] theorem isTy_list_lst {b : List D} : isTy "list" (.lst b) = .ok true := by unfold isTy tyNm; simp only [kb_list_list]
@[simp] theorem isTy_list_frl {b : List D} : isTy "list" (.frl b) = .ok true := by unfold isTy tyNm; simp only [kb_list_list]
@[simp] theorem isTy_list_tup {b : List D} : isTy "list" (.tup b) = .ok false := by unfold isTy tyNm; simp only [kb_tuple_list]
@[simp] theorem isTy_list_dic {k : List Key} {b : List D} : isTy "list" (.dic k b) = .ok false := by unfold isTy tyNm; simp only [kb_dict_list]
@[simp] theorem isTy_list_dit {k : List (List Key)} {b : List D} : isTy "list" (.dit k b) = .ok false := by unfold isTy tyNm; simp only [kb_dict_list]
theorem kb_NoneType_tuple : kitB "NoneType" "tuple" = some false := by decide +kernel
theorem kb_bool_tuple : kitB "bool" "tuple" = some false := by decide +kernel
theorem kb_int_tuple : kitB "int" "tuple" = some false := by decide +kernel
theorem kb_str_tuple : kitB "str" "tuple" = some false := by decide +kernel
theorem kb_list_tuple : kitB "list" "tuple" = some false := by decide +kernel
theorem kb_tuple_tuple : kitB "tuple" "tuple" = some true := by decide +kernel
theorem kb_dict_tuple : kitB "dict" "tuple" = some false := by decide +kernel
@[simp] theorem isTy_tuple_non : isTy "tuple" .non = .ok false := by unfold isTy tyNm; simp only [kb_NoneType_tuple]
@[simp] theorem isTy_tuple_bl {b : Bool} : isTy "tuple" (.bl b) = .ok false := by unfold isTy tyNm; simp only [kb_bool_tuple]
@[simp] theorem isTy_tuple_int {b : Int} : isTy "tuple" (.int b) = .ok false := by unfold isTy tyNm; simp only [kb_int_tuple]
@[simp] theorem isTy_tuple_str {b : Str} : isTy "tuple" (.str b) = .ok false := by unfold isTy tyNm; simp only [kb_str_tuple]
@[simp] theorem isTy_tuple_lst {b : List D} : isTy "tuple" (.lst b) = .ok false := by unfold isTy tyNm; simp only [kb_list_tuple]
@[simp] theorem isTy_tuple_frl {b : List D} : isTy "tuple" (.frl b) = .ok false := by unfold isTy tyNm; simp only [kb_list_tuple]
@[simp] theorem isTy_tuple_tup {b : List D} : isTy "tuple" (.tup b) = .ok true := by unfold isTy tyNm; simp only [kb_tuple_tuple]
@[simp] theorem isTy_tuple_dic {k : List Key} {b : List D} : isTy "tuple" (.dic k b) = .ok false := by unfold isTy tyNm; simp only [kb_dict_tuple]
@[simp] theorem isTy_tuple_dit {k : List (List Key)} {b : List D} : isTy "tuple" (.dit k b) = .ok false := by unfold isTy tyNm; simp only [kb_dict_tuple]
theorem kb_NoneType_str : kitB "NoneType" "str" = some false := by decide +kernel
theorem kb_bool_str : kitB "bool" "str" = some false := by decide +kernel
theorem kb_int_str : kitB "int" "str" = some false := by decide +kernel
theorem kb_str_str : kitB "str" "str" = some true := by decide +kernel
theorem kb_list_str : kitB "list" "str" = some false := by decide +kernel
theorem kb_tuple_str : kitB "tuple" "str" = some false := by decide +kernel
theorem kb_dict_str : kitB "dict" "str" = some false := by decide +kernel
@[simp] theorem isTy_str_non : isTy "str" .non = .ok false := by unfold isTy tyNm; simp only [kb_NoneType_str]
@[simp] theorem isTy_str_bl {b : Bool} : isTy "str" (.bl b) = .ok false := by unfold isTy tyNm; simp only [kb_bool_str]
@[simp] theorem isTy_str_int {b : Int} : isTy "str" (.int b) = .ok false := by unfold isTy tyNm; simp only [kb_int_str]
@[simp] theorem isTy_str_str {b : Str} : isTy "str" (.str b) = .ok true := by unfold isTy tyNm; simp only [kb_str_str]
@[simp] theorem isTy_str_lst {b : List D} : isTy "str" (.lst b) = .ok false := by unfold isTy tyNm; simp only [kb_list_str]
@[simp] theorem isTy_str_frl {b : List D} : isTy "str" (.frl b) = .ok false := by unfold isTy tyNm; simp only [kb_list_str]
@[simp] theorem isTy_str_tup {b : List D} : isTy "str" (.tup b) = .ok false := by unfold isTy tyNm; simp only [kb_tuple_str]
@[simp] theorem isTy_str_dic {k : List Key} {b : List D} : isTy "str" (.dic k b) = .ok false := by unfold isTy tyNm; simp only [kb_dict_str]
@[simp] theorem isTy_str_dit {k : List (List Key)} {b : List D} : isTy "str" (.dit k b) = .ok false := by unfold isTy tyNm; simp only [kb_dict_str]
theorem kb_NoneType_dict : kitB "NoneType" "dict" = some false := by decide +kernel
theorem kb_bool_dict : kitB "bool" "dict" = some false := by decide +kernel
theorem kb_int_dict : kitB "int" "dict" = some false := by decide +kernel
theorem kb_str_dict : kitB "str" "dict" = some false := by decide +kernel
theorem kb_list_dict : kitB "list" "dict" = some false := by decide +kernel
theorem kb_tuple_dict : kitB "tuple" "dict" = some false := by decide +kernel
theorem kb_dict_dict : kitB "dict" "dict" = some true := by decide +kernel
@[simp] theorem isTy_dict_non : isTy "dict" .non = .ok false := by unfold isTy tyNm; simp only [kb_NoneType_dict]
@[simp] theorem isTy_dict_bl {b : Bool} : isTy "dict" (.bl b) = .ok false := by unfold isTy tyNm; simp only [kb_bool_dict]
@[simp] theorem isTy_dict_int {b : Int} : isTy "dict" (.int b) = .ok false := by unfold isTy tyNm; simp only [kb_int_dict]
@[simp] theorem isTy_dict_str {b : Str} : isTy "dict" (.str b) = .ok false := by unfold isTy tyNm; simp only [kb_str_dict]
@[simp] theorem isTy_dict_lst {b : List D} : isTy "dict" (.lst b) = .ok false := by unfold isTy tyNm; simp only [kb_list_dict]
@[simp] theorem isTy_dict_frl {b : List D} : isTy "dict" (.frl b) = .ok false := by unfold isTy tyNm; simp only [kb_list_dict]
@[simp] theorem isTy_dict_tup {b : List D} : isTy "dict" (.tup b) = .ok false := by unfold isTy tyNm; simp only [kb_tuple_dict]
@[simp] theorem isTy_dict_dic {k : List Key} {b : List D} : isTy "dict" (.dic k b) = .ok true := by unfold isTy tyNm; simp only [kb_dict_dict]
@[simp] theorem isTy_dict_dit {k : List (List Key)} {b : List D} : isTy "dict" (.dit k b) = .ok true := by unfold isTy tyNm; simp only [kb_dict_dict]
@[simp] theorem trD_bl {b : Bool} : trD (.bl b) = .ok b := rfl
@[simp] theorem trD_non : trD .non = .ok false := rfl
@[simp] theorem trD_int {i : Int} : trD (.int i) = .ok (i != 0) := rfl
@[simp] theorem trD_lst {xs : List D} : trD (.lst xs) = .ok (!xs.isEmpty) := rfl
@[simp] theorem trD_frl {xs : List D} : trD (.frl xs) = .ok (!xs.isEmpty) := rfl
@[simp] theorem trD_tup {xs : List D} : trD (.tup xs) = .ok (!xs.isEmpty) := rfl
@[simp] theorem dIsi_ap {T : String} : dIsi T d = (isTy T d).bind fun b => .ok (.bl b) := rfl
@[simp] theorem dIsi2_ap {T U : String} : dIsi2 T U d = (isTy T d).bind fun b => if b = true then .ok (.bl true) else (isTy U d).bind fun c => .ok (.bl c) := rfl
end
end Da
namespace Da
open PySem PySem.Spec L2
/-- a turn's end: N goes on, Q is wanted of what leaves the loop -/
def Turn (N : Env → Prop) (Q : Res Fl → Prop) : Res Fl → Prop
  | .ok (.nx ρ) => N ρ
  | .ok (.ct ρ) => N ρ
  | .ok (.bk ρ) => Q (.ok (.nx ρ))
  | .ok (.rt d) => Q (.ok (.rt d))
  | .ok (.xc c fs ρ) => Q (.ok (.xc c fs ρ))
  | .ex _ _ => False
  | .er => False
@[simp] theorem Turn_nx {N : Env → Prop} {Q : Res Fl → Prop} {ρ : Env} : Turn N Q (.ok (.nx ρ)) = N ρ := rfl
@[simp] theorem Turn_ct {N : Env → Prop} {Q : Res Fl → Prop} {ρ : Env} : Turn N Q (.ok (.ct ρ)) = N ρ := rfl
@[simp] theorem Turn_bk {N : Env → Prop} {Q : Res Fl → Prop} {ρ : Env} : Turn N Q (.ok (.bk ρ)) = Q (.ok (.nx ρ)) := rfl
@[simp] theorem Turn_rt {N : Env → Prop} {Q : Res Fl → Prop} {d : D} : Turn N Q (.ok (.rt d)) = Q (.ok (.rt d)) := rfl
@[simp] theorem rng_length {lo : Int} {n : Nat} : (rng lo n).length = n := by unfold rng; rw [List.length_map, List.length_range]
theorem fFor_ap {it : Env → Res (List D)} {g : D → Env → Res Env} {F : FS} {ρ : Env} {xs : List D} (h : it ρ = .ok xs) : fFor it g F ρ = forGo g F xs ρ := by unfold fFor; rw [h]; rfl
@[simp] theorem startE_one {n : Nat} {a : D} : startE (n + 1) [a] = some a :: List.replicate n none := by simp [startE]
@[simp] theorem startE_two {n : Nat} {a b : D} : startE (n + 2) [a, b] = some a :: some b :: List.replicate n none := by simp [startE]
@[simp] theorem chk_one {f : List D → Res D} {a : D} : chk 1 f [a] = f [a] := rfl
@[simp] theorem chk_two {f : List D → Res D} {a b : D} : chk 2 f [a, b] = f [a, b] := rfl
@[simp] theorem chk_three {f : List D → Res D} {a b c : D} : chk 3 f [a, b, c] = f [a, b, c] := rfl
@[simp] theorem chk_four {f : List D → Res D} {a b c d : D} : chk 4 f [a, b, c, d] = f [a, b, c, d] := rfl
@[simp] theorem gLstD_nil : gLstD [] = .ok (.lst []) := rfl
@[simp] theorem gLstD_cons {d : D} {ds : List D} (h : ds.length < 100000 := by decide) : gLstD (d :: ds) = .ok (.lst (d :: ds)) := by
  unfold gLstD
  rw [if_pos (by rw [List.length_cons]; omega)]
theorem dIx_lst {xs : List D} {i : Int} {d : D} (h : atI xs i = some d) : dIx (.lst xs) (.int i) = .ok d := by simp only [dIx, h]
theorem dIx_tup {xs : List D} {i : Int} {d : D} (h : atI xs i = some d) : dIx (.tup xs) (.int i) = .ok d := by simp only [dIx, h]
theorem dIx_frl {xs : List D} {i : Int} {d : D} (h : atI xs i = some d) : dIx (.frl xs) (.int i) = .ok d := by simp only [dIx, h]
end Da
namespace Da
open PySem PySem.Spec L2
def F_law_whole : FS := (fRet (fBv (fAnd (fB (f1 (dIsi "int") (fV 0))) (fB (fBv (fNot (fB (f1 (dIsi "bool") (fV 0)))))))))
def m_law_whole : List D → Res D := runF 1 .sh F_law_whole
def F_law_cell : FS := (fSeq (fIfS (fB (f2 dLt (fV 1) (fOn (on1 dLen) (fA (fV 0) fA0)))) (fRet (f2 dIx (fV 0) (fV 1))) fNext)
    (fSeq (fSet 2 (fC (.int 17)))
    (fSeq (fFor (fL (fV 0)) (gN 3) (fSet 2 (f2 dMod (fOn (on1 dInt) (fA (f2 dAdd (f2 dMul (fV 2) (fC (.int 31))) (f2 dMod (fOn (on1 dInt) (fA (fV 3) fA0)) (fC (.int 1000003)))) fA0)) (fC (.int 1000003)))))
    (fRet (f2 dMod (fOn (on1 dInt) (fA (f2 dMul (f2 dMul (f2 dAdd (fV 2) (fC (.int 7))) (f2 dAdd (fV 1) (fC (.int 3)))) (fC (.int 69621))) fA0)) (fC (.int 2147483647)))))))
def m_law_cell : List D → Res D := runF 4 .sh F_law_cell
def F_law_digits : FS := (fSeq (fSet 2 (fOn gLstD fA0))
    (fSeq (fSet 3 (fOn (on1 dInt) (fA (fV 0) fA0)))
    (fSeq (fIfS (fB (f2 dGe (fV 3) (f2 dPow (fC (.int 10)) (fC (.int 18))))) (fSeq (fSet 3 (f2 dSub (fV 3) (f2 dPow (fC (.int 10)) (fC (.int 18)))))
    (fSeq (fFor (fL (fV 1)) (gN 6) (fSeq (fApp 2 (f2 dMod (fOn (on1 dInt) (fA (fV 3) fA0)) (fV 6)))
    (fSet 3 (f2 dDiv (fOn (on1 dInt) (fA (fV 3) fA0)) (fV 6)))))
    (fRet (fV 2)))) fNext)
    (fSeq (fSet 4 (f2 dMod (fOn (on1 dInt) (fA (fV 3) fA0)) (fC (.int 2147483629))))
    (fSeq (fFor (fR1 (fA (fOn (on1 dLen) (fA (fV 1) fA0)) fA0)) (gN 5) (fSeq (fSet 4 (f2 dMod (fOn (on1 dInt) (fA (f2 dAdd (f2 dAdd (f2 dMul (fV 4) (fC (.int 48271))) (f2 dMul (fC (.int 974711)) (fV 5))) (fC (.int 12345))) fA0)) (fC (.int 2147483647))))
    (fSeq (fSet 7 (f2 dMod (fOn (on1 dInt) (fA (f2 dMul (fV 4) (f2 dAdd (f2 dDiv (fV 4) (fC (.int 65537))) (fC (.int 3)))) fA0)) (fC (.int 2147483629))))
    (fApp 2 (f2 dMod (f2 dDiv (fV 7) (fC (.int 19))) (f2 dIx (fV 1) (fV 5)))))))
    (fRet (fV 2)))))))
def m_law_digits : List D → Res D := runF 8 .ow F_law_digits
/-- a row of digits below the sizes -/
def Digs (sizes row : List Int) : Prop := row.length = sizes.length ∧ ∀ (i : Nat) (s r : Int), sizes[i]? = some s → row[i]? = some r → 0 ≤ r ∧ r < s
theorem Digs.snoc {sizes row : List Int} {n : Nat} {s r : Int} (h : Digs (sizes.take n) row) (hs : sizes[n]? = some s) (h0 : 0 ≤ r) (h1 : r < s) : Digs (sizes.take (n + 1)) (row ++ [r]) := by
  obtain ⟨hl, hd⟩ := h
  have hn := (List.getElem?_eq_some_iff.mp hs).1
  rw [List.length_take, Nat.min_eq_left (by omega)] at hl
  refine ⟨by rw [List.length_append, List.length_take, hl, Nat.min_eq_left (by omega)]; rfl, fun i s' r' e1 e2 => ?_⟩
  rw [List.getElem?_take] at e1
  split at e1
  · rename_i hi
    by_cases hin : i < n
    · exact hd i s' r' (by rw [List.getElem?_take, if_pos hin]; exact e1) (by rw [List.getElem?_append_left (by omega)] at e2; exact e2)
    · have : i = n := by omega
      subst this
      rw [hs] at e1
      cases e1
      rw [← hl, List.getElem?_concat_length] at e2
      cases e2
      exact ⟨h0, h1⟩
  · cases e1
end Da
namespace Da
open PySem PySem.Spec L2
/-- the data of the slots vs forgotten -/
def wipeD (ρ : Env) : List Nat → Env
  | [] => ρ
  | v :: vs => (wipeD ρ vs).set v none
/-- the items of a comprehension -/
def lcGo (g : D → Env → Res Env) (c : Env → Res Bool) (f : Env → Res D) (ρ : Env) : List D → Res (List D)
  | [] => .ok []
  | x :: xs => match g x ρ with
    | .ok ρ1 => (match c ρ1 with
      | .ok b => if b = true then (match f ρ1 with
        | .ok y => (match lcGo g c f ρ xs with
          | .ok ys => .ok (y :: ys)
          | _ => .er)
        | _ => .er) else lcGo g c f ρ xs
      | _ => .er)
    | _ => .er
def asLst (r : Res (List D)) : Res D := match r with
  | .ok ys => .ok (.lst ys)
  | _ => .er
def fLc (vs : List Nat) (it : Env → Res (List D)) (g : D → Env → Res Env) (c : Env → Res Bool) (f : Env → Res D) : Env → Res D := fun ρ => (it ρ).bind fun xs => if szOk xs.length = true then asLst (lcGo g c f (wipeD ρ vs) xs) else .er
def fYes : Env → Res Bool := fun _ => .ok true
def EF : WX := fun _ _ _ _ => False
theorem takesF {X : Cx} : Takes X EF := fun _ _ x => by
  obtain ⟨_, _, _, _, _, _, _, _, _, _, _, _, z⟩ := x
  exact z.2.2.2.2.elim
structure JTs (X : Cx) (E : WX) (m : Mds) (es : List Expr) (f : Env → Res Bool) : Prop where
  pt : PTs X es (tT X.K X.mg E m f)
section
variable {K : PySem.W.Frag} {mg : Str → Option Value} {m : Mds} {F : Nat → List Addr} {S S' H H' : Hp} {σ : L2.St} {ρ : Env}
theorem EnvF.wipe (h : EnvF K mg m F S H σ ρ) : ∀ vs : List Nat, EnvF K mg m F S H (L2.wipe σ vs) (wipeD ρ vs)
  | [] => h
  | v :: vs => by
    have ih := EnvF.wipe h vs
    have key : ∀ {j : Nat} {d : D}, ((wipeD ρ vs).set v none)[j]? = some (some d) → j ≠ v ∧ (wipeD ρ vs)[j]? = some (some d) := fun {j d} ej => by
      by_cases hj : v = j
      · subst hj
        rw [List.getElem?_set, if_pos rfl] at ej
        split at ej <;> cases ej
      · rw [List.getElem?_set_ne hj] at ej
        exact ⟨fun z => hj z.symm, ej⟩
    unfold L2.wipe wipeD
    refine ⟨by rw [List.length_set, List.length_set]; exact ih.len, fun i d e => ?_, fun i d e => ih.nd i d (key e).2, fun i j d e hij e1 e2 => ih.apart i j d e hij (key e1).2 (key e2).2⟩
    obtain ⟨w, e1, o⟩ := ih.at_ i d (key e).2
    exact ⟨w, by rw [List.getElem?_set_ne (Ne.symm (key e).1)]; exact e1, o⟩
theorem EnvM.wipe (h : EnvM K mg m S H σ ρ) (vs : List Nat) : EnvM K mg m S H (L2.wipe σ vs) (wipeD ρ vs) := by
  obtain ⟨hs, F, h⟩ := h
  exact ⟨hs, F, h.wipe vs⟩
/-- slots as of a body that nothing was before -/
theorem EnvM.bare (h : EnvM K mg m S H σ ρ) : ∃ F, StF K mg m (fun _ => none) (fun _ => none) S F σ ρ H := by
  obtain ⟨hs, F, h⟩ := h
  exact ⟨F, ⟨(fun _ _ e => nomatch e), (fun _ _ e => nomatch e), hs, (fun _ _ => .inr rfl)⟩, h, (fun _ _ _ _ _ => rfl)⟩
theorem wipe_at {vs : List Nat} {j : Nat} : (L2.wipe σ vs)[j]? = if j ∈ vs ∧ j < σ.length then some none else σ[j]? := by
  induction vs with
  | nil => simp [L2.wipe]
  | cons v vs ih =>
    unfold L2.wipe
    rw [List.getElem?_set, L2.wipe_length, ih]
    by_cases hv : v = j
    · subst hv
      by_cases hl : v < σ.length
      · simp [hl]
      · simp [hl]
    · have : ¬ j = v := fun z => hv z.symm
      simp [hv, this]
theorem wipe_eq {σ' : L2.St} {vs ts : List Nat} (hl : σ'.length = σ.length) (hj : ∀ j, j ∉ ts → σ'[j]? = (L2.wipe σ vs)[j]?) (hts : ∀ t ∈ ts, t ∈ vs) : L2.wipe σ' vs = L2.wipe σ vs := by
  refine List.ext_getElem? fun j => ?_
  rw [wipe_at, wipe_at, hl]
  by_cases hv : j ∈ vs
  · by_cases hlt : j < σ.length
    · rw [if_pos ⟨hv, hlt⟩, if_pos ⟨hv, hlt⟩]
    · rw [if_neg (fun z => hlt z.2), if_neg (fun z => hlt z.2), List.getElem?_eq_none (by omega), List.getElem?_eq_none (by omega)]
  · rw [if_neg (fun z => hv z.1), if_neg (fun z => hv z.1)]
    have := hj j (fun z => hv (hts j z))
    rw [wipe_at, if_neg (fun z => hv z.1)] at this
    exact this
/-- a hidden new object is written -/
theorem Step.write {p : Addr} {o : HO} (st : Step S H S' H') (hs : S' p = none) (hp : H p = none) : Step S H S' (upd H' p o) := by
  refine ⟨fun b x e => ?_, st.ss, fun b x e => ?_, st.new⟩
  · rw [upd_ne (ne_of_none e hp)]
    exact st.hh b x e
  · rw [upd_ne (ne_of_none e hs)]
    exact st.sub b x e
end
section
variable {K : PySem.W.Frag} {mg : Str → Option Value} {E : WX} {m : Mds} {it : Env → Res (List D)} {g : D → Env → Res Env} {c : Env → Res Bool} {f : Env → Res D} {ts vs : List Nat}
/-- the list under way: its items so far, what is still to come -/
def LcW (K : PySem.W.Frag) (mg : Str → Option Value) (g : D → Env → Res Env) (c : Env → Res Bool) (f : Env → Res D) (ρ : Env) (xs ys : List D) (D0 : Addr) (S1 H1 : Hp) (i : Nat) (H : Hp) : Prop :=
  ∃ S2 ws ds rest, Step S1 H1 S2 H ∧ S2 D0 = none ∧ H D0 = some (.lst ws) ∧ RepL K mg S2 ws ds ∧ lcGo g c f ρ (xs.drop i) = .ok rest ∧ ys = ds ++ rest ∧ ds.length ≤ i
theorem lc_ok {σ : L2.St} {H : Hp} {Q : VK} (hts : ∀ t ∈ ts, t ∈ vs) (h : tE K mg E m .ow (fLc vs it g c f) σ H Q) :
    tLc (tI K mg E m it) (tGD K mg m ts g) (tT K mg EF m c) (tE K mg EF m .sh f) vs σ H Q := by
  obtain ⟨S, ρ, hm, hp⟩ := h
  refine ⟨S, ρ, hm, (Post.bind hp).imp fun xs S1 H1 s1 k J w D0 hD => ?_⟩
  split at k
  · rename_i hz
    have hz := szOk_ok hz
    unfold asLst at k
    split at k
    · rename_i ys eg
      refine ⟨fun i n H => n = xs.length - i ∧ i ≤ xs.length ∧ LcW K mg g c f (wipeD ρ vs) xs ys D0 S1 H1 i H, ⟨xs.length, by simp, Nat.zero_le _, S1, [], [], ys, Step.hid s1.sub hD, s1.sub.free hD, upd_same, .nil, eg, rfl, Nat.le_refl _⟩, ?_⟩
      rintro i n H2 ⟨rfl, hi, S2, ws, ds, rest, st2, hs2, hd2, rv, el, ey, hn⟩
      by_cases hlt : i < xs.length
      · obtain ⟨hgo, hyl⟩ := w.go i xs[i] S2 H2 (List.getElem?_eq_getElem hlt) st2.ss st2.sub
        refine .inr ⟨hgo, LcW K mg g c f (wipeD ρ vs) xs ys D0 S1 H1 (i + 1), fun H' z => ⟨xs.length - (i + 1), by omega, rfl, hlt, z⟩, fun x H3 y => ?_⟩
        obtain ⟨S3, s3, r3⟩ := hyl x H3 y
        rw [List.drop_eq_getElem_cons hlt] at el
        unfold lcGo at el
        split at el
        · rename_i ρ1 eg1
          have st3 := st2.trans s3
          obtain ⟨F, stF⟩ := (((hm.step s1).step st3).wipe vs).bare
          refine ⟨_, _, S3, F, wipeD ρ vs, xs[i], stF, r3, ?_⟩
          rw [eg1]
          intro σ4 S4 F4 H4 st4 s4 hfr
          refine ⟨wipe_eq (by rw [hfr.1, L2.wipe_length]) hfr.2 hts, S4, ρ1, st4.envM, ?_⟩
          split at el
          · rename_i b ec
            rw [ec]
            intro S5 H5 s5
            have a5 := (s3.trans s4).trans s5
            have st5 := st2.trans a5
            have hd5 := a5.hh _ _ hd2
            have hs5 := a5.out hs2 hd2
            cases b with
            | false =>
              rw [if_neg (by decide)] at el
              show LcW K mg g c f (wipeD ρ vs) xs ys D0 S1 H1 (i + 1) H5
              exact ⟨S5, ws, ds, rest, st5, hs5, hd5, rv.mono a5.ss, el, ey, by omega⟩
            | true =>
              rw [if_pos rfl] at el
              show tE K mg EF m Md.sh f σ4 H5 _
              split at el
              · rename_i y' ef
                refine ⟨S5, ρ1, (st4.envM).step s5, ?_⟩
                rw [ef]
                intro v S6 H6 fp s6 o _ _
                have a6 := a5.trans s6
                split at el
                · rename_i rest' er
                  cases el
                  refine ⟨ws, a6.hh _ _ hd2, by rw [rv.len]; omega, S6, ws ++ [v], ds ++ [y'], rest', (st2.trans a6).write (a6.out hs2 hd2) hD, a6.out hs2 hd2, upd_same, (rv.mono a6.ss).snoc o.1, er, by rw [ey]; simp, by rw [List.length_append]; simp; omega⟩
                · cases el
              · cases el
          · cases el
        · cases el
      · have e : i = xs.length := by omega
        subst e
        rw [List.drop_length] at el
        cases el
        rw [List.append_nil] at ey
        subst ey
        exact .inl ⟨w.stop S2 H2 st2.ss st2.sub, k _ S2 H2 [D0] st2 ⟨D0, ws, _, rfl, rfl, rfl, hs2, hd2, rv⟩ (by simp) (fun a z => by
          have : a = D0 := by simpa using z
          rw [this]; exact hD)⟩
    · exact k.elim
  · exact k.elim
end
section
variable {X : Cx} {E : WX} {L : Lp} {m : Mds} {ts : List Nat} {N0 ps0 : List Str} {sc0 : Scope} {elt tg iter e : Expr} {ifs : List Expr} {scope : Scope} {own : List (Str × Nat)} {pos : Pos} {it : Env → Res (List D)} {g : D → Env → Res Env} {c : Env → Res Bool} {f : Env → Res D}
theorem jts_nil : JTs X E m [] fYes := ⟨⟨fun pins s σ H Q I q => pts_nil.run pins s σ H Q I (by
  obtain ⟨S, ρ, hm, hp⟩ := q
  exact hp S H (Step.refl hm.1))⟩⟩
theorem jts_one (h : JT X E m e c) : JTs X E m [e] c := ⟨pts_one h.pt⟩
theorem je_lc (Sc : FnScope N0 ps0 sc0) (own : List (Str × Nat)) (hi : JI X E m tg iter it)
    (hg : ∀ (s : Shared) (H : Hp) (C : Addr) (cl : List (Str × Addr)) (fp : List Addr), JG (X.blk s H scope (compEnvC scope cl C X.env) fp) m ts tg g) (ht : ∀ (s : Shared) (H : Hp) (C : Addr) (cl : List (Str × Addr)) (fp : List Addr), JTs (X.blk s H scope (compEnvC scope cl C X.env) fp) EF m ifs c)
    (he : ∀ (s : Shared) (H : Hp) (C : Addr) (cl : List (Str × Addr)) (fp : List Addr), JE (X.blk s H scope (compEnvC scope cl C X.env) fp) EF m .sh elt f) (hc : X.calm = true := by rfl) (hN0 : X.N = N0 := by rfl) (hsc : X.env.scope = sc0 := by rfl) (ok : blkC N0 sc0 scope own = true := by decide +kernel) (hts : ∀ t ∈ ts, t ∈ own.map (·.2) := by decide)
    (hs : ∀ x, foldedSetIterable iter X.env x = pure x := by intro _; rfl) : JE X E m .ow (.ListComp elt [⟨tg, iter, ifs, 0⟩] scope pos) (fLc (own.map (·.2)) it g c f) :=
  ⟨PEimp (pe_lc (g := tGD X.K X.mg m ts g) (tt := tT X.K X.mg EF m c) (te := tE X.K X.mg EF m .sh f) hc (by rw [hN0]; exact Sc.nd) hi.pi (blkOk_by (by rw [hN0, hsc]; exact ok)) (fun s H C cl fp => (hg s H C cl fp).pg) (fun s H C cl fp => (ht s H C cl fp).pt) (fun s H C cl fp => (he s H C cl fp).pe) hs) fun σ H Q h => lc_ok hts h⟩
theorem js_setLc (i : Nat) {y : Str} {py spos : Pos} (Sc : FnScope N0 ps0 sc0) (own : List (Str × Nat)) (hi : JI X E m tg iter it)
    (hg : ∀ (s : Shared) (H : Hp) (C : Addr) (cl : List (Str × Addr)) (fp : List Addr), JG (X.blk s H scope (compEnvC scope cl C X.env) fp) m ts tg g) (ht : ∀ (s : Shared) (H : Hp) (C : Addr) (cl : List (Str × Addr)) (fp : List Addr), JTs (X.blk s H scope (compEnvC scope cl C X.env) fp) EF m ifs c)
    (he : ∀ (s : Shared) (H : Hp) (C : Addr) (cl : List (Str × Addr)) (fp : List Addr), JE (X.blk s H scope (compEnvC scope cl C X.env) fp) EF m .sh elt f) (hl : i < m.length := by first | decide | simp) (hc : X.calm = true := by rfl) (hy : X.N[i]? = some y := by rfl) (hyl : X.env.scope.names.lookup y = some .local := by rfl)
    (hsw : swapsWith (.ListComp elt [⟨tg, iter, ifs, 0⟩] scope pos) (some (.Name y py)) spos.line X.env = pure true := by rfl) (hN0 : X.N = N0 := by rfl) (hsc : X.env.scope = sc0 := by rfl) (ok : blkC N0 sc0 scope own = true := by decide +kernel) (hts : ∀ t ∈ ts, t ∈ own.map (·.2) := by decide)
    (hs : ∀ x, foldedSetIterable iter X.env x = pure x := by intro _; rfl) : JS X E L m (m.set i .ow) (.Assign [.Name y py] (.ListComp elt [⟨tg, iter, ifs, 0⟩] scope pos) spos) (fSet i (fLc (own.map (·.2)) it g c f)) := by
  refine ⟨PSimp (ps_setLc (g := tGD X.K X.mg m ts g) (tt := tT X.K X.mg EF m c) (te := tE X.K X.mg EF m .sh f) hc (by rw [hN0]; exact Sc.nd) hy hyl hsw hi.pi (blkOk_by (by rw [hN0, hsc]; exact ok)) (fun s H C cl fp => (hg s H C cl fp).pg) (fun s H C cl fp => (ht s H C cl fp).pt) (fun s H C cl fp => (he s H C cl fp).pe) hs) fun D σ H h => ?_⟩
  obtain ⟨S0, H0, ρ, ⟨S, Fp, st⟩, p⟩ := h
  refine lc_ok hts ⟨S, ρ, st.envM, (lift_post st p).postM fun d v S1 H1 fp s1 o hn hf k => ?_⟩
  refine k _ _ (StF.stM ((st.step s1).set hl o hn (fun a ha => st.1.hh.free (hf a ha)) fun j e' hj ej a ha z => ?_))
  obtain ⟨w, _, o'⟩ := st.2.1.at_ j e' ej
  obtain ⟨_, u, hu⟩ := o'.out ha
  rw [hf a z] at hu
  cases hu
end
end Da
namespace Da
open PySem PySem.Spec L2
def D.en (d : D) : PyData := (D.py d).getD .none
def leD (x y : D) : Bool := PySem.W.dataLe false D.en x y
def SrtOk (ds : List D) : Prop := (∃ bs, D.pys ds = some bs) ∧ PySem.W.AllAlike (ds.map D.en) ∧ PySem.W.Sortable (ds.map D.en) ∧ ∀ d ∈ ds, d.en.depth ≤ 20
def srtOk (ds : List D) : Bool := stuck (SrtOk ds)
def dSorted : D → Res D
  | .lst ds => if srtOk ds = true then .ok (.lst (ds.mergeSort leD)) else .er
  | .tup ds => if srtOk ds = true then .ok (.lst (ds.mergeSort leD)) else .er
  | .frl ds => if srtOk ds = true then .ok (.lst (ds.mergeSort leD)) else .er
  | _ => .er
theorem pys_some : ∀ {ds : List D} {bs : List PyData}, D.pys ds = some bs → bs = ds.map D.en ∧ ∀ d ∈ ds, D.py d = some d.en
  | [], bs, e => by cases e; exact ⟨rfl, fun d h => nomatch h⟩
  | d :: ds, bs, e => by
    unfold D.pys at e
    split at e
    · rename_i y ys e1 e2
      cases e
      obtain ⟨h1, h2⟩ := pys_some e2
      have hy : d.en = y := by unfold D.en; rw [e1]; rfl
      refine ⟨by rw [List.map_cons, ← h1, hy], fun d' hd => ?_⟩
      rcases List.mem_cons.mp hd with rfl | hd
      · rw [hy]; exact e1
      · exact h2 d' hd
    · cases e
mutual
theorem reads_off {h : Heap} {a : Addr} (ha : h.get? a = none) : ∀ (d : PyData) (v : Value) (as : List Addr), PySem.W.alike d d = true → Reads h v d as → a ∉ as
  | .none, _, _, _, r => by cases r; simp
  | .bool _, _, _, _, r => by cases r; simp
  | .int _, _, _, _, r => by cases r; simp
  | .str _, _, _, _, r => by cases r; simp
  | .list xs, _, _, hal, r => by
    cases r with
    | list h1 h2 h3 h4 =>
      rw [List.mem_cons, not_or]
      exact ⟨fun e => by rw [e, h1] at ha; (cases ha), readsAll_off ha xs _ _ (by simpa [PySem.W.alike] using hal) h4⟩
  | .tuple xs, _, _, hal, r => by
    cases r with
    | tuple h1 h2 h3 h4 => exact readsAll_off ha xs _ _ (by simpa [PySem.W.alike] using hal) h4
  | .dict _, _, _, hal, _ => absurd hal (by simp [PySem.W.alike])
theorem readsAll_off {h : Heap} {a : Addr} (ha : h.get? a = none) : ∀ (ds : List PyData) (vs : List Value) (as : List Addr), PySem.W.alikeAll ds ds = true → ReadsAll h vs ds as → a ∉ as
  | [], _, _, _, r => by cases r; simp
  | d :: ds, _, _, hal, r => by
    cases r with
    | cons h1 h2 =>
      rw [List.mem_append, not_or]
      exact ⟨reads_off ha d _ _ (PySem.W.alike_all_cons hal).1 h1, readsAll_off ha ds _ _ (PySem.W.alike_all_cons hal).2 h2⟩
end
section
variable {prog : Program} {w : World} {A : Around} {Er : Value → Shared → Prop} {s : Shared} {β : Type} {its : List Value} {bs : List β} {enc : β → PyData} {R : Value → β → Prop}
theorem sorted_seq {l : Addr} {T : String} {o : Obj} {n : Nat} {Q : Value → Shared → Prop} (hT : T = "list" ∨ T = "tuple") (ho : s.heap.get? l = some o) (hc : o.cls = .type T) (hd : o.data = .seq its.toArray n) (hz : its.length ≤ sizeLine)
    (e : PySem.W.EachIs R its bs) (er : PySem.W.EachIs (fun v b => ∃ as, Reads s.heap v (enc b) as) its bs) (hal : PySem.W.AllAlike (bs.map enc)) (hk : PySem.W.Sortable (bs.map enc)) (hu : ∀ b, b ∈ bs → A.units + 8 + (enc b).depth < cLine)
    (h : ∀ (h1 h2 : Heap) (out : List Value) (ep : Nat), (∀ b o, s.heap.get? b = some o → h1.get? b = some o) → (∀ b o, h1.get? b = some o → h2.get? b = some o) → h2.get? h1.objs.size = some (PyProof.Rows.seqObj "list" (List.toArray out) ep) → PySem.W.EachIs R out (bs.mergeSort (PySem.W.dataLe false enc)) → Q (.ref h1.objs.size) { s with heap := h2 }) :
    wpAny (model prog w) A (call (.builtin "sorted") [.ref l]) Q Er s := by
  refine Calls.call_function_entry PyProof.Rows.kind_sorted PyProof.Rows.plain_sorted PyProof.Rows.entry_sorted (PyProof.Rows.args_sorted1 _) ?_
  unfold Builtin.«sorted»
  refine wpAny_bind (m := checkCount "sorted" 1 1 _) (wpAny_pure ?_)
  refine wpAny_bind (wpAny_collect_seq l hT ho hc hd (fun h1 k1 => ?_) (by rw [List.size_toArray]; exact hz))
  have hl : bs.length ≤ sizeLine := by rw [← e.length]; exact hz
  refine wpAny_bind (wpAny_newList ?_ hz)
  have hS : (h1.push { cls := .type "list", data := .seq its.toArray }).get? h1.objs.size = some (PyProof.Rows.seqObj "list" its.toArray 0) := Heap.get?_push_size _ rfl
  have k2 : ∀ b o, h1.get? b = some o → (h1.push { cls := .type "list", data := .seq its.toArray }).get? b = some o := fun b o q => Heap.get?_push_of_some _ q
  have off : h1.get? h1.objs.size = none := by
    cases q : h1.get? h1.objs.size with
    | none => rfl
    | some o => exact absurd (Heap.lt_size q) (Nat.lt_irrefl _)
  have er2 : PySem.W.EachIs (fun v b => ∃ as, Reads (h1.push { cls := .type "list", data := .seq its.toArray }) v (enc b) as ∧ h1.objs.size ∉ as) its bs :=
    (PySem.W.each_mem er).mono fun v b ⟨⟨as, r⟩, hb⟩ => by
      have r1 := PyProof.Rows.Reads.keeps k1 r
      exact ⟨as, PyProof.Rows.Reads.keeps k2 r1, reads_off off _ _ _ (hal _ (List.mem_map.mpr ⟨b, hb, rfl⟩) _ (List.mem_map.mpr ⟨b, hb, rfl⟩)) r1⟩
  refine wpAny_bind (wpAny_holding (PySem.W.list_sort_data (s := { s with heap := h1.push { cls := .type "list", data := .seq its.toArray } }) (a := h1.objs.size) hS e er2 hal hk hl (fun b hb => ?_) fun out _ ho2 => ?_))
  · have := hu b hb
    show A.units + _ + 1 + (enc b).depth < cLine
    omega
  · obtain ⟨ep, q⟩ := PyProof.Rows.sortedHeap_at (out := List.toArray out) hS
    refine wpAny_pure ⟨_, rfl, h h1 _ out ep k1 (fun b o q' => ?_) q ho2⟩
    have hlt := Heap.lt_size q'
    rw [PyProof.Rows.sortedHeap_old (Nat.ne_of_lt hlt) (by rw [Heap.size_push]; exact Nat.lt_succ_of_lt hlt)]
    exact k2 b o q'
end
/-- sorted(xs), of a list or a tuple -/
def rSortD (K : PySem.W.Frag) (mg : Str → Option Value) : List V → Hp → VK → Prop := fun vs H Q => ∃ (S : Hp) (a : Addr) (xs : List V) (ds : List D), vs = [V.ref a] ∧ (SqL K H a xs ∨ SqT K H a xs) ∧ Same S H ∧ RepL K mg S xs ds ∧ SrtOk ds ∧
  ∀ (p : Addr) (ys : List V), RepL K mg S ys (ds.mergeSort leD) → H p = none → Q (.ref p) (upd H p (.lst ys))
theorem each_zip {K : PySem.W.Frag} {mg : Str → Option Value} {S : Hp} : ∀ {xs : List V} {ds : List D} {us : List Value}, RepL K mg S xs ds → Vals xs us → PySem.W.EachIs (fun v (b : V × D) => RelV b.1 v) us (xs.zip ds)
  | [], _, _, _, .nil => .nil
  | x :: xs, [], _, h, _ => by have := h.len; simp at this
  | x :: xs, d :: ds, _, h, .cons r t => .cons r (each_zip h.tail t)
theorem each_out : ∀ {us : List Value} {zs : List (V × D)}, PySem.W.EachIs (fun v (b : V × D) => RelV b.1 v) us zs → Vals (zs.map (·.1)) us
  | _, _, .nil => .nil
  | _, _, .cons h t => .cons h (each_out t)
theorem zip_snd {α β : Type} : ∀ {xs : List α} {ds : List β}, xs.length = ds.length → (xs.zip ds).map (·.2) = ds
  | [], [], _ => rfl
  | [], _ :: _, h => by simp at h
  | _ :: _, [], h => by simp at h
  | x :: xs, d :: ds, h => by rw [List.zip_cons_cons, List.map_cons, zip_snd (by simpa using h)]
section
variable {X : Cx} {E : WX} {m : Mds} {e : Expr} {fs : Env → Res (List D)} {p pos : Pos}
theorem cr_sortD (hu : X.A.units + 40 < cLine) : CallR X (.builtin "sorted") (rSortD X.K X.mg) := by
  intro pins s σ H vs us Q I r h
  obtain ⟨S, a, xs, ds, rfl, hq, hS, rv, ⟨⟨bs, eb⟩, hal, hso, hdp⟩, q⟩ := h
  obtain ⟨u, rfl, ru⟩ := Vals.one r
  cases ru
  have main : ∀ (T : String) (o : Obj) (its : List Value) (n : Nat), (T = "list" ∨ T = "tuple") → s.heap.get? a = some o → o.cls = .type T → o.data = .seq its.toArray n → xs.length ≤ sizeLine → Vals xs its → wpAny (model X.prog X.w) X.A (call (.builtin "sorted") [.ref a]) (EP X pins σ Q) X.xe s := by
    intro T o its n hT ho hc hd hz vv
    obtain ⟨eqb, hpy⟩ := pys_some eb
    have zs := zip_snd rv.len
    have e1 := each_zip rv vv
    have e2 : PySem.W.EachIs (fun v (b : V × D) => ∃ as, Reads s.heap v b.2.en as) its (xs.zip ds) := (PySem.W.each_mem e1).mono fun v b ⟨hr, hb⟩ => by
      obtain ⟨i, hi⟩ := List.mem_iff_getElem?.mp hb
      rw [List.getElem?_zip_eq_some] at hi
      exact Dp.reads I b.2.en b.1 v (dp_mono hS (dp_of b.2 b.1 _ (rv.at_ i b.1 b.2 hi.1 hi.2) (hpy _ (List.mem_of_getElem? hi.2)))) hr
    have em : (xs.zip ds).map (fun b => b.2.en) = ds.map D.en := by
      rw [show (fun b : V × D => b.2.en) = D.en ∘ (·.2) from rfl, ← List.map_map, zs]
    refine sorted_seq (enc := fun b : V × D => b.2.en) hT ho hc hd (by rw [← vv.length]; exact hz) e1 e2 (by rw [em]; exact hal) (by rw [em]; exact hso) (fun b hb => ?_) fun h1 h2 out ep k1 k2 hp ho2 => ?_
    · have := hdp b.2 (by rw [← zs]; exact List.mem_map.mpr ⟨b, hb, rfl⟩)
      omega
    · have I1 : Inv X pins σ H { s with heap := h1 } := I.kept (t' := s.toks) k1
      generalize hzs : (xs.zip ds).mergeSort (PySem.W.dataLe false fun b => b.2.en) = zs2 at ho2
      have pm : zs2.Perm (xs.zip ds) := by rw [← hzs]; exact List.mergeSort_perm _ _
      have es : zs2.map (·.2) = ds.mergeSort leD := by
        have q1 := List.map_mergeSort (r := PySem.W.dataLe false fun b : V × D => b.2.en) (s := leD) (f := fun b : V × D => b.2) (l := xs.zip ds) (fun a _ b _ => rfl)
        rw [← hzs, q1, zs]
      have rz : RepL X.K X.mg S (zs2.map (·.1)) (ds.mergeSort leD) := by
        rw [← es]
        refine ⟨by rw [List.length_map, List.length_map], fun i v d a b => ?_⟩
        rw [List.getElem?_map] at a b
        cases ez : zs2[i]? with
        | none => rw [ez] at a; cases a
        | some c =>
          rw [ez] at a b
          cases a; cases b
          obtain ⟨j, hj⟩ := List.mem_iff_getElem?.mp (pm.mem_iff.mp (List.mem_of_getElem? ez))
          rw [List.getElem?_zip_eq_some] at hj
          exact rv.at_ j _ _ hj.1 hj.2
      have hl : (zs2.map (·.1)).length ≤ sizeLine := by
        rw [rz.len, List.length_mergeSort, ← rv.len]
        exact hz
      exact ⟨.ref _, upd H h1.objs.size (.lst (zs2.map (·.1))), I1.laid (t' := s.toks) k2 (Nat.le_refl _) ⟨hl, out, ep, each_out ho2, hp⟩, rfl, q _ _ rz (I1.hok.fresh (Nat.le_refl _))⟩
  rcases hq with hq | hq
  · obtain ⟨its, vv, ⟨o, n, ho, hc, _, hd⟩, hz⟩ := I.list hq
    exact main "list" o its n (.inl rfl) ho hc hd hz vv
  · obtain ⟨its, vv, ⟨o, ho, hc, n, hd⟩, hz⟩ := I.tuple hq
    exact main "tuple" o its n (.inr rfl) ho hc hd hz vv
theorem je_sorted (hr : RmU X.A) (hm : X.mg "sorted" = none) (ha : JA X E m [e] fs) (hg : Gl X "sorted" := by rfl) (he : starEach [e] X.env = (false, eval e X.env) :: starEach [] X.env := by rfl) : JE X E m .ow (.Call (.Name "sorted" p) [e] [] pos) (fOn (on1 dSorted) fs) :=
  je_callB (cr_sortD (by unfold RmU at hr; omega)) (calld1 fun E S H x d Q hs rx hp => by
    cases d with
    | lst xs =>
      obtain ⟨hz, hp⟩ := Post.of_if hp
      obtain ⟨a, vs, rfl, ha, rv⟩ := rx.of_lst
      exact ⟨S, a, vs, xs, rfl, .inl (.inl (.inl (hs _ _ ha))), hs, rv, stuck_iff.mp hz, fun p ys ry hl => Post.list (.inr rfl) hp hs ry hl⟩
    | frl xs =>
      obtain ⟨hz, hp⟩ := Post.of_if hp
      obtain ⟨a, vs, rfl, ha, rv⟩ := rx.of_frl
      exact ⟨S, a, vs, xs, rfl, .inl (same_l hs ha), hs, rv, stuck_iff.mp hz, fun p ys ry hl => Post.list (.inr rfl) hp hs ry hl⟩
    | tup xs =>
      obtain ⟨hz, hp⟩ := Post.of_if hp
      obtain ⟨a, vs, rfl, ha, rv⟩ := rx.of_tup
      exact ⟨S, a, vs, xs, rfl, .inr (same_t hs ha), hs, rv, stuck_iff.mp hz, fun p ys ry hl => Post.list (.inr rfl) hp hs ry hl⟩
    | _ => exact hp.elim) hm ha hg (by decide +kernel) (by decide) (by decide) he (by rfl)
end
end Da
namespace Da
open PySem PySem.Spec L2
theorem enum_new {v : Value} {o : Obj} {G : Heap → Prop} (B : Begins v o G) :
    Meets (Builtin.«enumerate.__new__» ⟨[.type "enumerate", v], []⟩) (fun _ R s => G s.heap ∧
      R (.ok (.ret (.ref (s.heap.push o).objs.size))) { s with heap := (s.heap.push o).push { cls := .type "enumerate", data := .fields #[.none, .bool false, .ref s.heap.objs.size, rawInt 0, .none, .none] } }) :=
  .of_wp fun prog w A R s hh => by
    obtain ⟨hp, g, d, tk, os⟩ := s
    obtain ⟨hg, hh⟩ := hh
    have hsb := sub_enumerate
    have walk : ∀ {A' : Around} {Er : Value → Shared → Prop} {Qv : Value → Shared → Prop}, Qv (.ref hp.objs.size) ⟨hp.push o, g, d, tk, os⟩ → wpAny (model prog w) A' (pyIter v) Qv Er ⟨hp, g, d, tk, os⟩ := fun q => B.iter prog w _ _ ⟨hp, g, d, tk, os⟩ _ hg q
    wp_walk using walk
    refine wpAny_stack_any fun stk => wpAny_pure ?_
    split
    · rename_i c _ _ _ _ _
      cases (c == Value.type "enumerate") <;> (wp_walk using walk; exact ⟨_, rfl, hh⟩)
    · wp_walk using walk; exact ⟨_, rfl, hh⟩
theorem call_enumT {prog : Program} {w : World} {A : Around} {Er : Value → Shared → Prop} {s : Shared} {t : Addr} {items : Array Value} {Q : Value → Shared → Prop} (ht : s.heap.IsTuple t items)
    (h : ∀ h', IsEnum h' (s.heap.objs.size + 1) s.heap.objs.size 0 .none → h'.IsTupleIter s.heap.objs.size t 0 → (∀ b o, s.heap.get? b = some o → h'.get? b = some o) → Q (.ref (s.heap.objs.size + 1)) { s with heap := h' }) :
    wpAny (model prog w) A (call (.type "enumerate") [.ref t]) Q Er s := by
  refine callType_new F.called_enumerate (by decide) (F.typeCall_enumerate_1 _) (F.newCall_enumerate_1 _) (fun obj => F.args_object_init_2 obj _) F.entry_enumerate_new (enum_new (begins_tuple t items)) ⟨ht, ?_⟩
  have hz : (s.heap.push { cls := .type "tuple_iterator", data := .fields #[.ref t, .int 0 0] }).objs.size = s.heap.objs.size + 1 := Heap.size_push ..
  show _ ∧ _
  rw [hz]
  have he : IsEnum ((s.heap.push { cls := .type "tuple_iterator", data := .fields #[.ref t, .int 0 0] }).push { cls := .type "enumerate", data := .fields #[.none, .bool false, .ref s.heap.objs.size, rawInt 0, .none, .none] }) (s.heap.objs.size + 1) s.heap.objs.size 0 .none := by
    have q := Heap.get?_push_size (s.heap.push { cls := .type "tuple_iterator", data := .fields #[.ref t, .int 0 0] }) (o := { cls := .type "enumerate", data := .fields #[.none, .bool false, .ref s.heap.objs.size, rawInt 0, .none, .none] }) rfl
    rw [hz] at q
    exact q
  exact ⟨⟨_, he, rfl⟩, h _ he ⟨_, Heap.get?_push_of_some _ (Heap.get?_push_size _ rfl), rfl, rfl⟩ fun b o x => Heap.get?_push_of_some _ (Heap.get?_push_of_some _ x)⟩
/-- the tuple at a, each item in a new pair -/
def IteT (K : PySem.W.Frag) (a : Addr) : It :=
  ⟨fun i H => ∃ (xs : List V) (x : V), SqT K H a xs ∧ xs[i]? = some x, fun i H v H' => ∃ T x, v = .ref T ∧ H T = none ∧ H' = upd H T (.tup [.int (i : Nat), x]) ∧ ∀ xs, SqT K H a xs → xs[i]? = some x, fun i H => ∃ xs : List V, SqT K H a xs ∧ xs.length ≤ i⟩
theorem turn_enumT {P : Program} {w : World} {K : PySem.W.Frag} {elts : List Expr} {kk : Nat} {tpos : Pos} (a e it : Addr) :
    L2.Turn P w K (.Tuple elts kk tpos) (IteT K a) [e, it] e (fun i h => (∃ old, IsEnum h e it ((i : Nat) : Int) old) ∧ h.IsTupleIter it a i ∧ e ≠ it) where
  mem := by simp
  obj := fun i h st b hb => by
    obtain ⟨⟨old, he⟩, ⟨o, ho, hc, hd⟩, _⟩ := st
    rcases (show b = e ∨ b = it by simpa using hb) with z | z
    · rw [z]; exact ⟨_, he, fun v q => nomatch q⟩
    · rw [z]; exact ⟨o, ho, fun v q => by rw [hd] at q; cases q⟩
  keep := fun i h h' st k => let ⟨⟨old, he⟩, hi, hne⟩ := st; ⟨⟨old, k e (by simp) _ he⟩, hi.at fun o q => k it (by simp) o q, hne⟩
  item := by
    intro X hP hw hK hc i pins s σ H Er I hf st hg
    subst hP hw hK
    obtain ⟨⟨old, he⟩, hit, hne⟩ := st
    obtain ⟨xs, x, hq, hx⟩ := hg
    obtain ⟨its, rv, p, hz⟩ := I.tuple hq
    obtain ⟨u, hu, ru⟩ := rv.get hx
    have hel : e < s.heap.objs.size := Heap.lt_size he
    have hil : it < s.heap.objs.size := by obtain ⟨_, q, _⟩ := hit; exact Heap.lt_size q
    have ht : s.heap.IsTuple a its.toArray := p
    have hea : e ≠ a := fun z => by
      obtain ⟨o, ho, hco, _⟩ := ht
      rw [← z, he] at ho
      cases ho
      exact absurd (show Value.type "enumerate" = Value.type "tuple" from hco) (by decide)
    have hia : a ≠ it := fun z => by
      obtain ⟨o, ho, hco, _⟩ := ht
      obtain ⟨o2, ho2, hc2, _⟩ := hit
      rw [z, ho2] at ho
      cases ho
      rw [hc2] at hco
      exact absurd hco (by decide)
    have hlt : i < its.toArray.size := by
      rw [List.size_toArray]
      exact (List.getElem?_eq_some_iff.mp hu).1
    refine wpAny_pyNext_enum_itemD (Draws.tuple (A := X.A.in1) (I.ok.hd hc) it a hia its.toArray) he ⟨hit, ht⟩ hlt hne (by simp [hne, hea]) fun y h' tk hy ho hst hT hsz hk => ?_
    have hyu : y = u := by
      have q : its[i]? = some y := by simpa using hy
      rw [hu] at q
      injection q with q
      exact q.symm
    subst hyu
    refine ⟨_, rfl, wpAny_letOwnedTupleGo_enum (s := { s with heap := h', toks := tk + 1 }) ho fun h'' he' sb => ?_⟩
    have hT2 : h''.get? s.heap.objs.size = some { cls := .type "tuple", data := .seq #[.int i tk, y] } := (sb.2 _ (Nat.ne_of_gt hel)).trans hT
    have new : ObjOk X.prog X.w (upd H s.heap.objs.size (.tup [.int (i : Nat), x])) h'' s.heap.objs.size (.tup [.int (i : Nat), x]) :=
      ⟨by show 2 ≤ sizeLine; decide, [.int i tk, y], .cons ⟨_, rfl⟩ (.cons ru .nil), ⟨_, hT2, rfl, _, rfl⟩⟩
    have I1 : Inv X pins σ (upd H s.heap.objs.size (.tup [.int (i : Nat), x])) { s with heap := h'', toks := tk + 1 } :=
      I.turnedNew (ch := [e, it]) (fun b ob hb q => (sb.2 b (fun z => hb (by simp [z]))).trans (hk b ob (fun z => hb (by simp [z])) (fun z => hb (by simp [z])) q)) hf (Nat.le_refl _) new
    refine ⟨.ref s.heap.objs.size, _, I1, rfl, ⟨_, x, rfl, I.hok.fresh (Nat.le_refl _), rfl, fun ys hy => by rw [I.tuple_inj hy hq]; exact hx⟩, ⟨⟨y, ?_⟩, hst.1.at fun o q => (sb.2 it (Ne.symm hne)).trans q, hne⟩, fun b hb => ?_⟩
    · rw [show ((i + 1 : Nat) : Int) = (i : Int) + 1 by omega]
      exact he'
    · have hlt2 : b < s.heap.objs.size := by
        rcases (show b = e ∨ b = it by simpa using hb) with z | z
        · rw [z]; exact hel
        · rw [z]; exact hil
      rw [upd_ne (Nat.ne_of_lt hlt2)]
      exact (hf b hb).1
  done := by
    intro X hP hw hK hc i pins s σ H Er I hf st hg
    subst hP hw hK
    obtain ⟨⟨old, he⟩, hit, hne⟩ := st
    obtain ⟨xs, hq, hx⟩ := hg
    obtain ⟨its, rv, p, hz⟩ := I.tuple hq
    have hl := rv.length
    have ht : s.heap.IsTuple a its.toArray := p
    obtain ⟨f0, f1, f2, f3, f4, f5⟩ := hf it (by simp)
    have hT : s.TypeIs (.ref e) "enumerate" := ⟨_, he, rfl⟩
    unfold pyNext
    refine wpAny_bind (wpAny_attempt (wpAny_callSpecial?_slot (name := Str.ofString "__next__") hT F.slot_enumerate_next (wpAny_call_entry F.slot_enumerate_next hT F.entry_enumerate_next ?_ (F.args_enumerate_next_1 _))))
    show wpAny _ _ (field (.ref e) 2 >>= _) _ _ _
    refine wpAny_bind (wpAny_field he rfl (x := .ref it) rfl (wpAny_bind (wpAny_nextOf_tuple_end (I.ok.hd hc) hit ht (by simp; omega) fun h' x hx1 hx2 => ?_)))
    obtain ⟨o, ho, hco⟩ := hx2
    exact wpAny_bind (wpAny_isInstance (T := "StopIteration") (b := true) ⟨o, ho, hco⟩ isSubtype_stop (wpAny_pure ⟨rfl, I.turned (t' := s.toks) (fun b o hb q => hx1 b o hb q) f0 f1 f3 f4 f5⟩))
  self := fun A i s Q Er st h => let ⟨⟨_, he⟩, _⟩ := st; wpAny_pyIter_enum he h
def iEnumA (K : PySem.W.Frag) (ta : TA) : TI := fun σ H R => ta σ H fun vs H1 => ∃ a xs, vs = [.ref a] ∧ (SqL K H1 a xs ∧ R (Ite K a) H1 ∨ SqT K H1 a xs ∧ R (IteT K a) H1)
theorem pi_enumA {X : Cx} {e : Expr} {ta : TA} {p pos tpos : Pos} {elts : List Expr} {kk : Nat} (hg : Gl X "enumerate") (hm : X.mg "enumerate" = none) (ha : PA X [e] ta) (hs : starEach [e] X.env = [(false, eval e X.env)] := by rfl) :
    PI X (.Tuple elts kk tpos) (.Call (.Name "enumerate" p) [e] [] pos) (iEnumA X.K ta) := by
  refine ⟨fun pins s σ H R I h => PyProof.Rows.Call_ (ld_blt I hg hm PyProof.Rows.boot_enumerate (PyProof.Rows.callWith_type1 (thn (ha.run pos pins s σ H _ I h) fun us s1 ⟨vs, H1, I1, r1, q1⟩ => ?_) hs rfl))⟩
  obtain ⟨a, xs, rfl, q1⟩ := q1
  obtain ⟨u, rfl, ru⟩ := Vals.one r1
  cases ru
  have fresh : ∀ b, b ∈ [s1.heap.objs.size + 1, s1.heap.objs.size] → FpOk X pins H1 b := fun b hb => by
    have hle : s1.heap.objs.size ≤ b := by
      rcases (show b = s1.heap.objs.size + 1 ∨ b = s1.heap.objs.size by simpa using hb) with z | z
      · rw [z]; exact Nat.le_add_right _ _
      · rw [z]; exact Nat.le_refl _
    exact I1.fpOk hle (I1.hok.fresh hle)
  rcases q1 with ⟨hq, q⟩ | ⟨hq, q⟩
  · obtain ⟨its, rv, pl, _⟩ := I1.list hq
    refine call_enumerate_list pl.isList fun h' he hit _ hk => wpAny_pyIter_enum he ?_
    exact ⟨_, _, _, _, H1, rfl, I1.kept (t' := s1.toks) hk, turn_enum a (s1.heap.objs.size + 1) s1.heap.objs.size, ⟨⟨.none, he⟩, hit, Nat.succ_ne_self _⟩, fresh, q⟩
  · obtain ⟨its, rv, pl, _⟩ := I1.tuple hq
    refine call_enumT (show s1.heap.IsTuple a its.toArray from pl) fun h' he hit hk => wpAny_pyIter_enum he ?_
    exact ⟨_, _, _, _, H1, rfl, I1.kept (t' := s1.toks) hk, turn_enumT a (s1.heap.objs.size + 1) s1.heap.objs.size, ⟨⟨.none, he⟩, hit, Nat.succ_ne_self _⟩, fresh, q⟩
def tGsD (K : PySem.W.Frag) (mg : Str → Option Value) (m : Mds) (ts : List Nat) (g : List D → Env → Res Env) : TGs := fun vs σ H Q => ∃ S0 H0 S F ρ ds, StF K mg m S0 H0 S F σ ρ H ∧ RepL K mg S vs ds ∧ (match g ds ρ with
  | .ok ρ1 => ∀ σ1 S1 F1 H1, StF K mg m S0 H0 S1 F1 σ1 ρ1 H1 → Step S H S1 H1 → (σ1.length = σ.length ∧ ∀ j, j ∉ ts → σ1[j]? = σ[j]?) → Q σ1 H1
  | _ => False)
structure JGs (X : Cx) (m : Mds) (ts : List Nat) (es : List Expr) (g : List D → Env → Res Env) : Prop where
  pgs : PGs X es (tGsD X.K X.mg m ts g)
def gs0 : List D → Env → Res Env := fun ds ρ => match ds with
  | [] => .ok ρ
  | _ => .er
def gsC (g : D → Env → Res Env) (r : List D → Env → Res Env) : List D → Env → Res Env := fun ds ρ => match ds with
  | d :: ds => (match g d ρ with
    | .ok ρ1 => r ds ρ1
    | _ => .er)
  | [] => .er
def gT (r : List D → Env → Res Env) : D → Env → Res Env := fun d ρ => match d with
  | .tup ds => r ds ρ
  | _ => .er
section
variable {X : Cx} {E : WX} {m : Mds} {ts us : List Nat} {tg e : Expr} {es elts : List Expr} {g : D → Env → Res Env} {r : List D → Env → Res Env} {fs : Env → Res (List D)} {p pos tpos : Pos} {kk : Nat}
theorem jgs_nil : JGs X m [] [] gs0 := by
  refine ⟨⟨fun pins s σ H vs uv Q I rv h => pgs_nil.run pins s σ H vs uv Q I rv ?_⟩⟩
  obtain ⟨S0, H0, S, F, ρ, ds, st, rd, q⟩ := h
  match ds, rd, q with
  | [], rd, q => exact ⟨rd.nil_iff.mpr rfl, q σ S F H st (Step.refl st.1.sub) ⟨rfl, fun _ _ => rfl⟩⟩
  | _ :: _, _, q => exact q.elim
theorem jgs_cons (h1 : JG X m ts e g) (h2 : JGs X m us es r) (hs : (assignEach (e :: es) X.env).map (·.2) = assign e X.env :: (assignEach es X.env).map (·.2) := by rfl) : JGs X m (ts ++ us) (e :: es) (gsC g r) := by
  refine ⟨⟨fun pins s σ H vs uv Q I rv h => (pgs_cons h1.pg h2.pgs hs).run pins s σ H vs uv Q I rv ?_⟩⟩
  obtain ⟨S0, H0, S, F, ρ, ds, st, rd, q⟩ := h
  match ds, rd, q with
  | [], _, q => exact q.elim
  | d :: ds, rd, q =>
    match vs, rd with
    | [], rd => have := rd.len; simp at this
    | v :: vs, rd =>
      refine ⟨v, vs, rfl, S0, H0, S, F, ρ, d, st, rd.head, ?_⟩
      unfold gsC at q
      simp only at q
      cases eg : g d ρ with
      | ok ρ1 =>
        rw [eg] at q
        simp only at q
        refine fun σ1 S1 F1 H1 st1 s1 fr1 => ⟨S0, H0, S1, F1, ρ1, ds, st1, rd.tail.mono s1.ss, ?_⟩
        cases er : r ds ρ1 with
        | ok ρ2 =>
          rw [er] at q
          refine fun σ2 S2 F2 H2 st2 s2 fr2 => q σ2 S2 F2 H2 st2 (s1.trans s2) ⟨fr2.1.trans fr1.1, fun j hj => ?_⟩
          rw [List.mem_append, not_or] at hj
          exact (fr2.2 j hj.2).trans (fr1.2 j hj.1)
        | ex c fs => rw [er] at q; exact q.elim
        | er => rw [er] at q; exact q.elim
      | ex c fs => rw [eg] at q; exact q.elim
      | er => rw [eg] at q; exact q.elim
/-- (a, b, ..) takes a tuple of that length -/
theorem jg_tup (h : JGs X m ts es r) (hr : ∀ ds ρ ρ1, r ds ρ = .ok ρ1 → ds.length = es.length) (hc : X.calm = true := by rfl) (hn : (assignEach es X.env).length = es.length := by rfl) (hst : (assignEach es X.env).findIdx? (·.1) = none := by rfl) : JG X m ts (.Tuple es kk tpos) (gT r) := by
  refine ⟨⟨fun pins s σ H v u Q I rv hq => (pg_tup hc h.pgs hn hst).run pins s σ H v u Q I rv ?_⟩⟩
  obtain ⟨S0, H0, S, F, ρ, d, st, rd, q⟩ := hq
  cases d with
  | tup ds =>
    obtain ⟨a, vs, rfl, ha, rs⟩ := rd.of_tup
    have q : (match r ds ρ with
      | .ok ρ1 => ∀ σ1 S1 F1 H1, StF X.K X.mg m S0 H0 S1 F1 σ1 ρ1 H1 → Step S H S1 H1 → (σ1.length = σ.length ∧ ∀ j, j ∉ ts → σ1[j]? = σ[j]?) → Q σ1 H1
      | _ => False) := q
    cases er : r ds ρ with
    | ok ρ1 => exact ⟨a, vs, rfl, same_t st.1.sub ha, by rw [rs.len]; exact hr ds ρ ρ1 er, S0, H0, S, F, ρ, ds, st, rs, q⟩
    | ex c fs => rw [er] at q; exact q.elim
    | er => rw [er] at q; exact q.elim
  | _ => exact q.elim
theorem gs0_len (ds : List D) (ρ ρ1 : Env) (h : gs0 ds ρ = .ok ρ1) : ds.length = 0 := by
  cases ds with
  | nil => rfl
  | cons d ds => cases h
theorem gsC_len {n : Nat} {g : D → Env → Res Env} {r : List D → Env → Res Env} (hr : ∀ ds ρ ρ1, r ds ρ = .ok ρ1 → ds.length = n) (ds : List D) (ρ ρ1 : Env) (h : gsC g r ds ρ = .ok ρ1) : ds.length = n + 1 := by
  cases ds with
  | nil => cases h
  | cons d ds =>
    unfold gsC at h
    simp only at h
    split at h
    · rw [List.length_cons, hr ds _ _ h]
    · cases h
theorem jg_tup2 {a b : Expr} {ga gb : D → Env → Res Env} (h1 : JG X m ts a ga) (h2 : JG X m us b gb) (hc : X.calm = true := by rfl) (ha : (assignEach [a, b] X.env).map (·.2) = assign a X.env :: (assignEach [b] X.env).map (·.2) := by rfl) (hb : (assignEach [b] X.env).map (·.2) = assign b X.env :: (assignEach [] X.env).map (·.2) := by rfl)
    (hn : (assignEach [a, b] X.env).length = 2 := by rfl) (hst : (assignEach [a, b] X.env).findIdx? (·.1) = none := by rfl) : JG X m (ts ++ (us ++ [])) (.Tuple [a, b] kk tpos) (gT (gsC ga (gsC gb gs0))) :=
  jg_tup (jgs_cons h1 (jgs_cons h2 jgs_nil hb) ha) (gsC_len (gsC_len gs0_len)) hc hn hst
def enumD (i : Nat) : List D → List D
  | [] => []
  | x :: xs => .tup [.int (i : Nat), x] :: enumD (i + 1) xs
theorem enumD_length : ∀ {xs : List D} {i : Nat}, (enumD i xs).length = xs.length
  | [], _ => rfl
  | x :: xs, i => by unfold enumD; rw [List.length_cons, List.length_cons, enumD_length]
theorem enumD_at : ∀ {xs : List D} {i j : Nat}, (enumD i xs)[j]? = (xs[j]?).map fun x => .tup [.int ((i + j : Nat) : Int), x]
  | [], _, _ => by simp [enumD]
  | x :: xs, i, 0 => by simp [enumD]
  | x :: xs, i, j + 1 => by
    unfold enumD
    rw [List.getElem?_cons_succ, List.getElem?_cons_succ, enumD_at, show i + 1 + j = i + (j + 1) by omega]
def dEnum : List D → Res (List D)
  | [d] => (asL d).bind fun xs => .ok (enumD 0 xs)
  | _ => .er
def fEnum (fs : Env → Res (List D)) : Env → Res (List D) := fun ρ => (fs ρ).bind dEnum
theorem walk_e {K : PySem.W.Frag} {mg : Str → Option Value} {S : Hp} {a : Addr} {vs : List V} {ds : List D} (r : RepL K mg S vs ds) (h : SqL K S a vs) : WalkD K mg (Ite K a) S (enumD 0 ds) where
  go := fun i d S1 H1 e s1 s2 => by
    rw [enumD_at, Nat.zero_add] at e
    cases ed : ds[i]? with
    | none => rw [ed] at e; cases e
    | some d0 =>
      rw [ed] at e
      cases e
      obtain ⟨v, ev, rv⟩ := r.get ed
      refine ⟨⟨vs, v, same_l s2 (same_l s1 h), ev⟩, fun x H2 ⟨T, y, e1, hT, e2, hy⟩ => ?_⟩
      subst e1 e2
      have := hy vs (same_l s2 (same_l s1 h))
      rw [ev] at this
      cases this
      have st := Step.laid (o := HO.tup [.int (i : Nat), v]) s2 hT
      exact ⟨_, st, Rep.tupL upd_same (.cons (.int _) (.cons ((rv.mono s1).mono st.ss) .nil))⟩
  stop := fun S1 H1 s1 s2 => ⟨vs, same_l s2 (same_l s1 h), by rw [enumD_length]; exact Nat.le_of_eq r.len⟩
theorem walk_eT {K : PySem.W.Frag} {mg : Str → Option Value} {S : Hp} {a : Addr} {vs : List V} {ds : List D} (r : RepL K mg S vs ds) (h : SqT K S a vs) : WalkD K mg (IteT K a) S (enumD 0 ds) where
  go := fun i d S1 H1 e s1 s2 => by
    rw [enumD_at, Nat.zero_add] at e
    cases ed : ds[i]? with
    | none => rw [ed] at e; cases e
    | some d0 =>
      rw [ed] at e
      cases e
      obtain ⟨v, ev, rv⟩ := r.get ed
      refine ⟨⟨vs, v, same_t s2 (same_t s1 h), ev⟩, fun x H2 ⟨T, y, e1, hT, e2, hy⟩ => ?_⟩
      subst e1 e2
      have := hy vs (same_t s2 (same_t s1 h))
      rw [ev] at this
      cases this
      have st := Step.laid (o := HO.tup [.int (i : Nat), v]) s2 hT
      exact ⟨_, st, Rep.tupL upd_same (.cons (.int _) (.cons ((rv.mono s1).mono st.ss) .nil))⟩
  stop := fun S1 H1 s1 s2 => ⟨vs, same_t s2 (same_t s1 h), by rw [enumD_length]; exact Nat.le_of_eq r.len⟩
theorem dEnum_ok {ds xs : List D} (h : dEnum ds = .ok xs) : ∃ d ys, ds = [d] ∧ asL d = .ok ys ∧ xs = enumD 0 ys := by
  unfold dEnum at h
  split at h
  · rename_i d
    cases e : asL d with
    | ok ys => rw [e] at h; cases h; exact ⟨d, ys, rfl, e, rfl⟩
    | ex c fs => rw [e] at h; cases h
    | er => rw [e] at h; cases h
  · cases h
theorem asL_ex {d : D} {c : Str} {fs : List (Str × D)} : asL d ≠ .ex c fs := by
  cases d <;> exact fun z => nomatch z
theorem dEnum_ex {ds : List D} {c : Str} {fs : List (Str × D)} : dEnum ds ≠ .ex c fs := by
  unfold dEnum
  split
  · rename_i d
    cases e : asL d with
    | ok ys => exact fun z => nomatch z
    | ex c fs => exact absurd e asL_ex
    | er => exact fun z => nomatch z
  · exact fun z => nomatch z
theorem ji_enum (ha : JA X E m [e] fs) (hm : X.mg "enumerate" = none) (hg : Gl X "enumerate" := by rfl) (hs : starEach [e] X.env = [(false, eval e X.env)] := by rfl) : JI X E m (.Tuple elts kk tpos) (.Call (.Name "enumerate" p) [e] [] pos) (fEnum fs) := by
  refine ⟨⟨fun pins s σ H R I h => (pi_enumA hg hm ha.pa hs).run pins s σ H R I ?_⟩⟩
  obtain ⟨S, ρ, hm, hp⟩ := h
  refine ⟨S, ρ, hm, (PostW.bind hp).imp fun ds S1 H1 s1 k vs rv => ?_⟩
  obtain ⟨xs, e, k⟩ := PostW.okOf k fun _ _ => dEnum_ex
  obtain ⟨d, ys, rfl, ey, rfl⟩ := dEnum_ok e
  obtain ⟨v, rfl, rd⟩ := repl1 rv
  cases d with
  | lst xs =>
    cases ey
    obtain ⟨a, vs, rfl, ha, rv⟩ := rd.of_lst
    exact ⟨a, vs, rfl, .inl ⟨.inl (.inl (s1.sub _ _ ha)), k S1 H1 (Step.refl s1.sub) _ (walk_e rv (.inl (.inl ha)))⟩⟩
  | frl xs =>
    cases ey
    obtain ⟨a, vs, rfl, ha, rv⟩ := rd.of_frl
    exact ⟨a, vs, rfl, .inl ⟨same_l s1.sub ha, k S1 H1 (Step.refl s1.sub) _ (walk_e rv ha)⟩⟩
  | tup xs =>
    cases ey
    obtain ⟨a, vs, rfl, ha, rv⟩ := rd.of_tup
    exact ⟨a, vs, rfl, .inr ⟨same_t s1.sub ha, k S1 H1 (Step.refl s1.sub) _ (walk_eT rv ha)⟩⟩
  | _ => cases ey
end
end Da
namespace Da
open PySem PySem.Spec L2
def tX (K : PySem.W.Frag) (mg : Str → Option Value) (m : Mds) (f : Env → Res (D × Env)) : TE := fun σ H Q => ∃ S0 H0 S F ρ, StF K mg m S0 H0 S F σ ρ H ∧ (match f ρ with
  | .ok (d, ρ1) => ∀ v S1 F1 H1, Same S S1 → StF K mg m S0 H0 S1 F1 σ ρ1 H1 → Rep K mg S1 v d → Q v H1
  | _ => False)
structure JX (X : Cx) (m : Mds) (e : Expr) (f : Env → Res (D × Env)) : Prop where
  pe : PE X e (tX X.K X.mg m f)
def fPop (i : Nat) (f : Env → Res D) : Env → Res (D × Env) := fun ρ => match ρ[i]? with
  | some (some (.lst xs)) => (match f ρ with
    | .ok (.int z) => (match ixN xs.length z with
      | some k => (match xs[k]? with
        | some y => if szOk xs.length = true then .ok (y, ρ.set i (some (.lst (xs.eraseIdx k)))) else .er
        | none => .er)
      | none => .er)
    | _ => .er)
  | _ => .er
def fPop0 (i : Nat) : Env → Res (D × Env) := fun ρ => match ρ[i]? with
  | some (some (.lst xs)) => (match xs[xs.length - 1]? with
    | some y => .ok (y, ρ.set i (some (.lst xs.dropLast)))
    | none => .er)
  | _ => .er
def fSetX (i : Nat) (f : Env → Res (D × Env)) : FS := fun ρ => match f ρ with
  | .ok (d, ρ1) => .ok (.nx (ρ1.set i (some d)))
  | _ => .er
def fAppX (i : Nat) (f : Env → Res (D × Env)) : FS := fun ρ => match ρ[i]? with
  | some (some (.lst _)) => (match f ρ with
    | .ok (d, ρ1) => (match ρ1[i]? with
      | some (some (.lst xs)) => if szOk (xs.length + 1) = true then .ok (.nx (ρ1.set i (some (.lst (xs ++ [d]))))) else .er
      | _ => .er)
    | _ => .er)
  | _ => .er
theorem Same.ref_eq {a b : Addr} {σ : L2.St} {i : Nat} (h : σ[i]? = some (some (V.ref a))) (k : σ[i]? = some (some (V.ref b))) : b = a := by
  rw [h] at k
  injection k with z; injection z with z; injection z with z
  exact z.symm
theorem ix_fits {n : Nat} {z : Int} {k : Nat} (h : ixN n z = some k) (hn : n ≤ sizeLine) : -(2 ^ 63) ≤ z ∧ z < 2 ^ 63 := by
  obtain ⟨_, _, h1, h2⟩ := ixN_seq h
  rw [sizeLine_eq] at hn
  omega
section
variable {X : Cx} {E : WX} {L : Lp} {m : Mds} {e : Expr} {f : Env → Res D} {fx : Env → Res (D × Env)} {x : Str} {pos p1 p2 p3 : Pos}
theorem jx_pop (i : Nat) (he : JE X EF m .sh e f) (hmd : IsOw (mdAt m i) := by first | exact .inl rfl | exact .inr ⟨_, rfl⟩) (hl : i < m.length := by first | decide | simp) (hN : X.N[i]? = some x := by rfl) (hv : Vis X.env.scope x := by first | exact Or.inl rfl | exact Or.inr (Or.inl rfl) | exact Or.inr (Or.inr rfl))
    (hd : (x == ("__debug__" : Str)) = false := by decide) (hcd : (x == ("__classdict__" : Str)) = false := by decide)
    (hpe : ∀ {to te : TE}, PE X (.Name x p1) to → PE X e te → PE X (.Call (.Attribute (.Name x p1) "pop" p2) [e] [] p3) (tBM X.K "list" rPopAt to (tCons te tNil)) := by
      intro to te ho he
      exact pe_bm PySem.F.plainAttrs_list PySem.F.slot_list_pop PySem.F.type_list_pop mt_popAt ho (pa_cons he pa_nil)) :
    JX X m (.Call (.Attribute (.Name x p1) "pop" p2) [e] [] p3) (fPop i f) := by
  refine ⟨⟨fun pins s σ H Q I h => (hpe (pe_var hN hv hd hcd) he.pe).run pins s σ H Q I ?_⟩⟩
  obtain ⟨S0, H0, S, Fp, ρ, st, p⟩ := h
  unfold fPop at p
  split at p
  · rename_i d ρ1 er
    split at er
    · rename_i xs exs
      obtain ⟨pa, vs, ds, eds, e1, e2, e3, e4, e5⟩ := st.own hmd exs
      cases eds
      refine ⟨_, e2, .inl ⟨rfl, vs, .inl (.inl e4)⟩, S, ρ, st.envM, ?_⟩
      split at er
      · rename_i z ez
        rw [ez]
        intro v S1 H1 fp s1 o _ _
        cases o.1
        split at er
        · rename_i k ek
          split at er
          · rename_i y ey
            split at er
            rotate_left
            · cases er
            rename_i hz0
            cases er
            obtain ⟨qa, ws, ds1, eds, q1, q2, q3, q4, q5⟩ := (st.step s1).own hmd exs
            cases eds
            obtain rfl := Same.ref_eq e2 q2
            obtain ⟨w, ew, rw'⟩ := q5.get ey
            obtain ⟨b1, b2⟩ := ix_fits ek (szOk_ok hz0)
            exact ⟨_, ws, z, k, w, rfl, rfl, q4, b1, b2, by rw [q5.len]; exact (ixN_seq ek).1, ew, p w S1 Fp _ s1.ss ((st.step s1).write hl hmd exs q1 q2 q3 q4 (q5.eraseIdx k)) rw'⟩
          · cases er
        · cases er
      · cases er
    · cases er
  · exact p.elim
theorem jx_pop0 (i : Nat) (hmd : IsOw (mdAt m i) := by first | exact .inl rfl | exact .inr ⟨_, rfl⟩) (hl : i < m.length := by first | decide | simp) (hN : X.N[i]? = some x := by rfl) (hv : Vis X.env.scope x := by first | exact Or.inl rfl | exact Or.inr (Or.inl rfl) | exact Or.inr (Or.inr rfl))
    (hd : (x == ("__debug__" : Str)) = false := by decide) (hcd : (x == ("__classdict__" : Str)) = false := by decide)
    (hpe : ∀ {to : TE}, PE X (.Name x p1) to → PE X (.Call (.Attribute (.Name x p1) "pop" p2) [] [] p3) (tBM0 X.K "list" rPop to) := by
      intro to ho
      exact pe_bm0 PySem.F.plainAttrs_list PySem.F.slot_list_pop PySem.F.type_list_pop mt_pop ho) :
    JX X m (.Call (.Attribute (.Name x p1) "pop" p2) [] [] p3) (fPop0 i) := by
  refine ⟨⟨fun pins s σ H Q I h => (hpe (pe_var hN hv hd hcd)).run pins s σ H Q I ?_⟩⟩
  obtain ⟨S0, H0, S, Fp, ρ, st, p⟩ := h
  unfold fPop0 at p
  split at p
  · rename_i d ρ1 er
    split at er
    · rename_i xs exs
      obtain ⟨pa, vs, ds, eds, e1, e2, e3, e4, e5⟩ := st.own hmd exs
      cases eds
      split at er
      · rename_i y ey
        cases er
        obtain ⟨w, ew, rw'⟩ := e5.get ey
        rw [← e5.len] at ew
        exact ⟨_, e2, .inl ⟨rfl, vs, .inl (.inl e4)⟩, _, vs, w, rfl, rfl, e4, ew, p w S Fp _ (Same.refl _) (st.write hl hmd exs e1 e2 e3 e4 e5.dropLast) rw'⟩
      · cases er
    · cases er
  · exact p.elim
theorem js_setX (i : Nat) {pos' : Pos} (he : JX X m e fx) (hN : X.N.Nodup) (hl : i < m.length := by first | decide | simp) (hi : X.N[i]? = some x := by rfl) (hx : Loc X.env.scope x := by first | exact Or.inl rfl | exact Or.inr rfl)
    (hs : swapsWith e (some (.Name x pos')) pos.line X.env = pure false := by rfl) (hf : X.fn x = true ∨ X.env.scope.names.lookup x = some .local := by first | exact .inl rfl | exact .inr rfl) :
    JS X E L m (m.set i .sh) (.Assign [.Name x pos'] e pos) (fSetX i fx) := by
  refine ⟨PSimp (ps_set hN hi hx he.pe hs hf) fun D σ H h => ?_⟩
  obtain ⟨S0, H0, ρ, ⟨S, Fp, st⟩, p⟩ := h
  unfold fSetX at p
  split at p
  · rename_i d ρ1 er
    refine ⟨S0, H0, S, Fp, ρ, st, ?_⟩
    try rw [er]
    intro v S1 F1 H1 _ st1 rd
    exact p _ _ (StF.stM (st1.set hl ⟨rd, rfl⟩ List.nodup_nil (fun a z => nomatch z) fun j e' hj ej a ha z => nomatch z))
  · exact p.elim
theorem js_appX (i : Nat) (he : JX X m e fx) (hmd : IsOw (mdAt m i) := by first | exact .inl rfl | exact .inr ⟨_, rfl⟩) (hl : i < m.length := by first | decide | simp) (hN : X.N[i]? = some x := by rfl) (hv : Vis X.env.scope x := by first | exact Or.inl rfl | exact Or.inr (Or.inl rfl) | exact Or.inr (Or.inr rfl))
    (hd : (x == ("__debug__" : Str)) = false := by decide) (hcd : (x == ("__classdict__" : Str)) = false := by decide)
    (hs : swapsWith (.Call (.Attribute (.Name x p1) "append" p2) [e] [] p3) none pos.line X.env = pure false := by rfl)
    (hpe : ∀ {to te : TE}, PE X (.Name x p1) to → PE X e te → PE X (.Call (.Attribute (.Name x p1) "append" p2) [e] [] p3) (tBM X.K "list" rAppend to (tCons te tNil)) := by
      intro to te ho he
      exact pe_bm PySem.F.plainAttrs_list PySem.F.slot_list_append PySem.F.type_list_append mt_append ho (pa_cons he pa_nil)) :
    JS X E L m m (.Expr (.Call (.Attribute (.Name x p1) "append" p2) [e] [] p3) pos) (fAppX i fx) := by
  refine ⟨PSimp (ps_expr (hpe (pe_var hN hv hd hcd) he.pe) hs) fun D σ H h => ?_⟩
  obtain ⟨S0, H0, ρ, ⟨S, Fp, st⟩, p⟩ := h
  unfold fAppX at p
  split at p
  · rename_i xs0 exs0
    obtain ⟨pa, vs, ds, eds, e1, e2, e3, e4, e5⟩ := st.own hmd exs0
    refine ⟨_, e2, .inl ⟨rfl, vs, .inl (.inl e4)⟩, S0, H0, S, Fp, ρ, st, ?_⟩
    split at p
    · rename_i d ρ1 er
      intro v S1 F1 H1 _ st1 rd
      split at p
      · rename_i xs exs
        split at p
        · rename_i hz
          obtain ⟨qa, ws, ds1, eds1, q1, q2, q3, q4, q5⟩ := st1.own hmd exs
          cases eds1
          obtain rfl := Same.ref_eq e2 q2
          exact ⟨_, ws, v, rfl, rfl, q4, by rw [q5.len]; exact szOk_lt hz, p _ _ (st1.write hl hmd exs q1 q2 q3 q4 (q5.snoc rd)).stM⟩
        · exact p.elim
      · exact p.elim
    · exact p.elim
  · exact p.elim
end
end Da
namespace Da
open PySem PySem.Spec L2
/-- whole numbers from naturals -/
def nat (i : Nat) : D := .int (i : Int)
theorem rng_zero {n : Nat} : rng 0 n = (List.range n).map nat := by
  unfold rng
  refine List.map_congr_left fun i _ => ?_
  rw [Int.zero_add]
  rfl
@[simp] theorem rng0_length {lo : Int} {n : Nat} : (rng lo n).length = n := rng_length
@[simp] theorem dList_lst {xs : List D} : dList (.lst xs) = .ok (.lst xs) := rfl
@[simp] theorem dList_tup {xs : List D} : dList (.tup xs) = .ok (.lst xs) := rfl
@[simp] theorem dTuple_lst {xs : List D} : dTuple (.lst xs) = .ok (.tup xs) := rfl
@[simp] theorem dTuple_tup {xs : List D} : dTuple (.tup xs) = .ok (.tup xs) := rfl
@[simp] theorem fTupleR1_ap {f : Env → Res D} {ρ : Env} {j : Int} (h : f ρ = .ok (.int j)) (h0 : 0 ≤ j) (h1 : j ≤ 1000000) : fTupleR1 f ρ = .ok (.tup ((List.range j.toNat).map nat)) := by
  unfold fTupleR1
  rw [h]
  show (if rgnOk 0 j = true then Res.ok (D.tup (rng 0 (j - 0).toNat)) else .er) = _
  rw [if_pos (show rgnOk 0 j = true from stuck_iff.mpr ⟨stuck_iff.mpr (by omega), by omega⟩), rng_zero, Int.sub_zero]
@[simp] theorem wipeD_one {ρ : Env} {i : Nat} : wipeD ρ [i] = ρ.set i none := rfl
@[simp] theorem fSc_int {f : Env → Res D} {ρ : Env} {j : Int} (h : f ρ = .ok (.int j)) : fSc f ρ = .ok (.int j) := by unfold fSc; rw [h]; rfl
@[simp] theorem fNx_ok {α : Type} {f : Env → Res α} {ρ : Env} {d : α} (h : f ρ = .ok d) : fNx f ρ = .ok d := by unfold fNx; rw [h]
theorem pys_ints : ∀ ns : List Int, D.pys (ns.map D.int) = some (ns.map PyData.int)
  | [] => rfl
  | n :: ns => by
    rw [List.map_cons, List.map_cons]
    unfold D.pys
    rw [pys_ints ns]
    rfl
theorem en_ints {ns : List Int} : (ns.map D.int).map D.en = ns.map PyData.int := by
  rw [List.map_map]
  rfl
theorem srt_ints (ns : List Int) : SrtOk (ns.map D.int) := by
  refine ⟨⟨_, pys_ints ns⟩, ?_, ?_, fun d hd => ?_⟩
  · rw [en_ints]
    exact PySem.W.AllAlike.of fun _ _ => by simp [PySem.W.alike]
  · rw [en_ints]
    exact PySem.W.Sortable.others fun _ => ⟨(fun z => nomatch z), (fun xs z => nomatch z)⟩
  · obtain ⟨n, _, rfl⟩ := List.mem_map.mp hd
    show PyData.depth (.int n) ≤ 20
    simp [PyData.depth]
def leI (x y : Int) : Bool := decide (x ≤ y)
theorem leD_int {x y : Int} : leD (.int x) (.int y) = leI x y := by
  have := congrFun (congrFun (PySem.W.dataLe_int (fun b : Int => b)) x) y
  exact this
theorem sort_ints (ns : List Int) : (ns.map D.int).mergeSort leD = (ns.mergeSort leI).map D.int := by
  exact (List.map_mergeSort (r := leI) (s := leD) (f := D.int) (l := ns) (fun a _ b _ => (leD_int).symm)).symm
theorem dSorted_lst {ns : List Int} : dSorted (.lst (ns.map D.int)) = .ok (.lst ((ns.mergeSort leI).map D.int)) := by
  show (if srtOk (ns.map D.int) = true then _ else _) = _
  rw [if_pos (show srtOk (ns.map D.int) = true from stuck_iff.mpr (srt_ints ns)), sort_ints]
/-- 0, 1, .. n - 1 -/
def upto (n : Nat) : List Int := (List.range n).map fun (i : Nat) => (i : Int)
theorem upto_length {n : Nat} : (upto n).length = n := by unfold upto; rw [List.length_map, List.length_range]
theorem mem_upto {n : Nat} {x : Int} : x ∈ upto n ↔ 0 ≤ x ∧ x < n := by
  unfold upto
  rw [List.mem_map]
  constructor
  · rintro ⟨i, hi, rfl⟩
    have := List.mem_range.mp hi
    omega
  · intro h
    exact ⟨x.toNat, List.mem_range.mpr (by omega), by omega⟩
theorem upto_nodup {n : Nat} : (upto n).Nodup := by
  unfold upto
  rw [List.Nodup, List.pairwise_map]
  exact List.pairwise_lt_range.imp fun h z => by omega
end Da
namespace Da
open PySem PySem.Spec L2
def keyD : D → Option Key
  | .int i => some (.inl i)
  | .str s => some (.inr s)
  | _ => none
def look : List Key → List D → Key → Option D
  | k' :: ks, d :: ds, k => if k' = k then some d else look ks ds k
  | _, _, _ => none
section
variable {K : PySem.W.Frag} {mg : Str → Option Value} {S H : Hp}
theorem keyD_ok {v : V} {d : D} {k : Key} (r : Rep K mg S v d) (h : keyD d = some k) : v = kV k := by
  cases d with
  | int i => cases h; cases r; rfl
  | str s => cases h; cases r; rfl
  | _ => cases h
end
def rDIn (neg : Bool) : R2 := fun x y H Q => ∃ a o, y = .ref a ∧ DGet H a x o ∧ Q (.bl (o.isSome != neg)) H
def rDIx : R2 := fun x y H Q => ∃ a v, x = .ref a ∧ DGet H a y (some v) ∧ Q v H
section
variable {X : Cx} {E : WX} {m : Mds} {a b : Expr} {fa fb : Env → Res D} {pos : Pos} {k : Nat}
theorem op_dNotIn (hu : X.A.units + 1 < cLine) : OpR X (compareOp .NotIn) (rDIn true) := by
  intro pins s σ H x y v u Q I rx ry h
  obtain ⟨d, o, rfl, g, q⟩ := h
  cases ry
  refine d_notIn hu I g rx fun s' I' => ⟨.bl (!o.isSome), H, I', rfl, ?_⟩
  cases o <;> exact q
end
end Da
namespace Da
open PySem PySem.Spec L2
section
variable {X : Cx} {E : WX} {L : Lp} {m : Mds} {ts : List Nat} {N0 ps0 : List Str} {sc0 : Scope} {kx vx tg iter e : Expr} {ifs : List Expr} {scope : Scope} {own : List (Str × Nat)} {pos p p1 p2 p3 tpos : Pos} {it : Env → Res (List D)} {g : D → Env → Res Env} {c : Env → Res Bool} {fk fv fa fb : Env → Res D} {a b : Expr} {es elts : List Expr} {kk k : Nat} {fs : Env → Res (List D)}
def zipD : List D → List D → List D
  | x :: xs, y :: ys => .tup [x, y] :: zipD xs ys
  | _, _ => []
theorem zipD_at : ∀ {xs ys : List D} {i : Nat}, (zipD xs ys)[i]? = match xs[i]?, ys[i]? with
    | some x, some y => some (.tup [x, y])
    | _, _ => none
  | [], ys, i => by simp [zipD]
  | x :: xs, [], i => by
    unfold zipD
    cases (x :: xs)[i]? <;> simp
  | x :: xs, y :: ys, 0 => by simp [zipD]
  | x :: xs, y :: ys, i + 1 => by
    unfold zipD
    rw [List.getElem?_cons_succ, List.getElem?_cons_succ, List.getElem?_cons_succ, zipD_at]
theorem zipD_length : ∀ {xs ys : List D}, (zipD xs ys).length = min xs.length ys.length
  | [], ys => by simp [zipD]
  | x :: xs, [] => by simp [zipD]
  | x :: xs, y :: ys => by
    unfold zipD
    rw [List.length_cons, List.length_cons, List.length_cons, zipD_length]
    omega
def dZip : List D → Res (List D)
  | [.lst xs, .lst ys] => .ok (zipD xs ys)
  | [.tup xs, .tup ys] => .ok (zipD xs ys)
  | _ => .er
def fZip (fs : Env → Res (List D)) : Env → Res (List D) := fun ρ => (fs ρ).bind dZip
theorem walk_z {K : PySem.W.Frag} {mg : Str → Option Value} {S : Hp} {a b : Addr} {vs ws : List V} {ds es : List D} (r : RepL K mg S vs ds) (r2 : RepL K mg S ws es) (h : SqL K S a vs) (h2 : SqL K S b ws) : WalkD K mg (Itz K a b) S (zipD ds es) where
  go := fun i d S1 H1 e s1 s2 => by
    rw [zipD_at] at e
    cases ed : ds[i]? with
    | none => rw [ed] at e; cases e
    | some d0 =>
      cases ee : es[i]? with
      | none => rw [ed, ee] at e; cases e
      | some e0 =>
        rw [ed, ee] at e
        cases e
        obtain ⟨v, ev, rv⟩ := r.get ed
        obtain ⟨w, ew, rw'⟩ := r2.get ee
        refine ⟨⟨vs, ws, v, w, same_l s2 (same_l s1 h), same_l s2 (same_l s1 h2), ev, ew⟩, fun x H2 ⟨T, y, z, e1, hT, e2, hy, hz⟩ => ?_⟩
        subst e1 e2
        have q1 := hy vs (same_l s2 (same_l s1 h))
        have q2 := hz ws (same_l s2 (same_l s1 h2))
        rw [ev] at q1
        rw [ew] at q2
        cases q1; cases q2
        have st := Step.laid (o := HO.tup [v, w]) s2 hT
        exact ⟨_, st, Rep.tupL upd_same (.cons ((rv.mono s1).mono st.ss) (.cons ((rw'.mono s1).mono st.ss) .nil))⟩
  stop := fun S1 H1 s1 s2 => ⟨vs, ws, same_l s2 (same_l s1 h), same_l s2 (same_l s1 h2), by rw [zipD_length, r.len, r2.len]; omega⟩
theorem walk_zT {K : PySem.W.Frag} {mg : Str → Option Value} {S : Hp} {a b : Addr} {vs ws : List V} {ds es : List D} (r : RepL K mg S vs ds) (r2 : RepL K mg S ws es) (h : SqT K S a vs) (h2 : SqT K S b ws) : WalkD K mg (RZ.ItzT K a b) S (zipD ds es) where
  go := fun i d S1 H1 e s1 s2 => by
    rw [zipD_at] at e
    cases ed : ds[i]? with
    | none => rw [ed] at e; cases e
    | some d0 =>
      cases ee : es[i]? with
      | none => rw [ed, ee] at e; cases e
      | some e0 =>
        rw [ed, ee] at e
        cases e
        obtain ⟨v, ev, rv⟩ := r.get ed
        obtain ⟨w, ew, rw'⟩ := r2.get ee
        refine ⟨⟨vs, ws, v, w, same_t s2 (same_t s1 h), same_t s2 (same_t s1 h2), ev, ew⟩, fun x H2 ⟨T, y, z, e1, hT, e2, hy, hz⟩ => ?_⟩
        subst e1 e2
        have q1 := hy vs (same_t s2 (same_t s1 h))
        have q2 := hz ws (same_t s2 (same_t s1 h2))
        rw [ev] at q1
        rw [ew] at q2
        cases q1; cases q2
        have st := Step.laid (o := HO.tup [v, w]) s2 hT
        exact ⟨_, st, Rep.tupL upd_same (.cons ((rv.mono s1).mono st.ss) (.cons ((rw'.mono s1).mono st.ss) .nil))⟩
  stop := fun S1 H1 s1 s2 => ⟨vs, ws, same_t s2 (same_t s1 h), same_t s2 (same_t s1 h2), by rw [zipD_length, r.len, r2.len]; omega⟩
theorem dZip_ok {ds xs : List D} (h : dZip ds = .ok xs) : ∃ as bs, xs = zipD as bs ∧ (ds = [.lst as, .lst bs] ∨ ds = [.tup as, .tup bs]) := by
  unfold dZip at h
  split at h
  · cases h; exact ⟨_, _, rfl, .inl rfl⟩
  · cases h; exact ⟨_, _, rfl, .inr rfl⟩
  · cases h
theorem dZip_ex {ds : List D} {c : Str} {fs : List (Str × D)} : dZip ds ≠ .ex c fs := by
  unfold dZip
  split <;> exact fun z => nomatch z
theorem ji_zip (ha : JA X E m [a, b] fs) (hm : X.mg "zip" = none) (hg : Gl X "zip" := by rfl) (hs : starEach [a, b] X.env = (false, eval a X.env) :: starEach [b] X.env := by rfl) (hpl : (backTo pos (starEach [b] X.env)).any (·.1) = false := by rfl) : JI X E m (.Tuple elts kk tpos) (.Call (.Name "zip" p) [a, b] [] pos) (fZip fs) := by
  refine ⟨⟨fun pins s σ H R I h => (RZ.pi_zipA hg hm ha.pa hs hpl).run pins s σ H R I ?_⟩⟩
  obtain ⟨S, ρ, hm, hp⟩ := h
  refine ⟨S, ρ, hm, (PostW.bind hp).imp fun ds S1 H1 s1 k vs rv => ?_⟩
  obtain ⟨xs, e, k⟩ := PostW.okOf k fun _ _ => dZip_ex
  obtain ⟨as, bs, rfl, hd⟩ := dZip_ok e
  rcases hd with rfl | rfl
  · obtain ⟨v, w, rfl, rd, re⟩ := repl2 rv
    obtain ⟨a1, v1, rfl, h1, r1⟩ := rd.of_lst
    obtain ⟨a2, v2, rfl, h2, r2⟩ := re.of_lst
    exact ⟨a1, a2, v1, v2, rfl, .inl ⟨.inl (.inl (s1.sub _ _ h1)), .inl (.inl (s1.sub _ _ h2)), k S1 H1 (Step.refl s1.sub) _ (walk_z r1 r2 (.inl (.inl h1)) (.inl (.inl h2)))⟩⟩
  · obtain ⟨v, w, rfl, rd, re⟩ := repl2 rv
    obtain ⟨a1, v1, rfl, h1, r1⟩ := rd.of_tup
    obtain ⟨a2, v2, rfl, h2, r2⟩ := re.of_tup
    exact ⟨a1, a2, v1, v2, rfl, .inr ⟨same_t s1.sub h1, same_t s1.sub h2, k S1 H1 (Step.refl s1.sub) _ (walk_zT r1 r2 h1 h2)⟩⟩
end
end Da
namespace Da
open PySem PySem.Spec L2
def lookF : List Str → List D → Str → Option D
  | n :: ns, d :: ds, f => if n = f then some d else lookF ns ds f
  | _, _, _ => none
def dFld (c f : Str) : D → Res D
  | .obj c' ns ds => if c' = c then (match lookF ns ds f with
    | some d => .ok d
    | none => .er) else .er
  | _ => .er
/-- the class c has nothing called f: its instances' own f is read and stored -/
def FldAt (K : PySem.W.Frag) (mg : Str → Option Value) (c f : Str) : Prop := ∀ C, mg c = some (.ref C) → Cls K C ∧ NoAttr K C f
section
variable {K : PySem.W.Frag} {mg : Str → Option Value} {S H : Hp}
theorem Rep.of_obj {v : V} {c : Str} {ns : List Str} {ds : List D} (h : Rep K mg S v (.obj c ns ds)) : ∃ a C dx fs, v = .ref a ∧ S a = some (.ins C dx fs) ∧ mg c = some (.ref C) ∧ ns = fs.map (·.1) ∧ RepL K mg S (fs.map (·.2)) ds := by
  cases h with
  | obj h hm hl hi =>
    refine ⟨_, _, _, _, rfl, h, hm, rfl, by rw [List.length_map]; exact hl, fun i v d a b => ?_⟩
    rw [List.getElem?_map] at a
    cases e : (_ : List (Str × V))[i]? with
    | none => rw [e] at a; cases a
    | some p => rw [e] at a; cases a; exact hi i p d e b
theorem lookF_ok : ∀ {fs : List (Str × V)} {ds : List D} {f : Str}, RepL K mg S (fs.map (·.2)) ds → (lookF (fs.map (·.1)) ds f = none ∧ fs.lookup f = none) ∨ ∃ d v, lookF (fs.map (·.1)) ds f = some d ∧ fs.lookup f = some v ∧ Rep K mg S v d
  | [], ds, f, r => .inl ⟨by cases ds <;> rfl, rfl⟩
  | p :: fs, [], f, r => by have := r.len; simp at this
  | p :: fs, d :: ds, f, r => by
    rw [List.map_cons] at r
    by_cases e : p.1 = f
    · refine .inr ⟨d, p.2, ?_, ?_, r.head⟩
      · show (if p.1 = f then some d else _) = _
        rw [if_pos e]
      · obtain ⟨n, v⟩ := p
        rw [List.lookup_cons, show (f == n) = true from by simp [show n = f from e]]
    · have ih := lookF_ok (f := f) r.tail
      have q : lookF ((p :: fs).map (·.1)) (d :: ds) f = lookF (fs.map (·.1)) ds f := by
        show (if p.1 = f then some d else _) = _
        rw [if_neg e]
      have q2 : (p :: fs).lookup f = fs.lookup f := by
        obtain ⟨n, v⟩ := p
        rw [List.lookup_cons, show (f == n) = false from by simp; exact fun z => e z.symm]
      rw [q, q2]
      exact ih
/-- a field stored, its place kept or at the end -/
def putN (f : Str) : List Str → List Str
  | [] => [f]
  | g :: r => if g = f then g :: r else g :: putN f r
def putD (f : Str) (d : D) : List Str → List D → List D
  | g :: ns, x :: ds => if g = f then d :: ds else x :: putD f d ns ds
  | _, ds => ds ++ [d]
theorem putF_ok {f : Str} {v : V} {d : D} (h : Rep K mg S v d) : ∀ {fs : List (Str × V)} {ds : List D}, RepL K mg S (fs.map (·.2)) ds → (putF f v fs).map (·.1) = putN f (fs.map (·.1)) ∧ RepL K mg S ((putF f v fs).map (·.2)) (putD f d (fs.map (·.1)) ds)
  | [], ds, r => by
    have : ds = [] := r.nil_iff.mp rfl
    subst this
    exact ⟨rfl, .cons h .nil⟩
  | p :: fs, [], r => by have := r.len; simp at this
  | (g, x) :: fs, y :: ds, r => by
    rw [List.map_cons] at r
    obtain ⟨i1, i2⟩ := putF_ok h r.tail
    by_cases e : g = f
    · refine ⟨?_, ?_⟩
      · show ((if g = f then (g, v) :: fs else (g, x) :: putF f v fs).map (·.1)) = (if g = f then g :: fs.map (·.1) else g :: putN f (fs.map (·.1)))
        rw [if_pos e, if_pos e]
        rfl
      · show RepL K mg S ((if g = f then (g, v) :: fs else (g, x) :: putF f v fs).map (·.2)) (if g = f then d :: ds else y :: putD f d (fs.map (·.1)) ds)
        rw [if_pos e, if_pos e]
        exact .cons h r.tail
    · refine ⟨?_, ?_⟩
      · show ((if g = f then (g, v) :: fs else (g, x) :: putF f v fs).map (·.1)) = (if g = f then g :: fs.map (·.1) else g :: putN f (fs.map (·.1)))
        rw [if_neg e, if_neg e, List.map_cons, i1]
      · show RepL K mg S ((if g = f then (g, v) :: fs else (g, x) :: putF f v fs).map (·.2)) (if g = f then d :: ds else y :: putD f d (fs.map (·.1)) ds)
        rw [if_neg e, if_neg e, List.map_cons]
        exact .cons r.head i2
end
section
variable {X : Cx} {E : WX} {L : Lp} {m : Mds} {a e : Expr} {fa f : Env → Res D} {pos p1 p2 : Pos} {c x : Str} {fn : Str}
theorem je_fld (c : Str) (F : FldAt X.K X.mg c fn) (ha : JE X E m .sh a fa) (hb : attributeBase a fn X.env (eval a X.env) = eval a X.env := by rfl) : JE X E m .sh (.Attribute a fn pos) (f1 (dFld c fn) fa) := by
  refine ⟨PEimp (pe_fld ha.pe hb) fun σ H Q h => ?_⟩
  obtain ⟨S, ρ, hm, hp⟩ := h
  refine ⟨S, ρ, hm, (Post.bind hp).post fun d v S1 H1 s1 r k => ?_⟩
  cases d with
  | obj c' ns ds =>
    have k2 : Post X.K X.mg (WE E σ) S1 H1 .sh (if c' = c then (match lookF ns ds fn with
      | some d => .ok d
      | none => .er) else .er) Q := k
    by_cases ec : c' = c
    · rw [if_pos ec] at k2
      subst ec
      obtain ⟨q, C, dx, fs, rfl, hq, hC, rfl, rv⟩ := r.of_obj
      obtain ⟨cl, na⟩ := F C hC
      rcases lookF_ok (f := fn) rv with ⟨e1, _⟩ | ⟨d, w, e1, e2, rw'⟩
      · rw [e1] at k2; exact k2.elim
      · rw [e1] at k2
        exact ⟨q, C, dx, fs, w, rfl, s1.sub _ _ hq, cl, na, e2, Post.val k2 s1.sub rw'⟩
    · rw [if_neg ec] at k2
      exact k2.elim
  | _ => exact k.elim
/-- .. of the object under way in slot i -/
theorem je_fldO (c : Str) (i : Nat) (F : FldAt X.K X.mg c fn) {q : Addr} (hmd : mdAt m i = .ob q := by rfl) (hN : X.N[i]? = some x := by rfl) (hv : Vis X.env.scope x := by first | exact Or.inl rfl | exact Or.inr (Or.inl rfl) | exact Or.inr (Or.inr rfl))
    (hd : (x == ("__debug__" : Str)) = false := by decide) (hcd : (x == ("__classdict__" : Str)) = false := by decide) (hb : attributeBase (.Name x p1) fn X.env (eval (.Name x p1) X.env) = eval (.Name x p1) X.env := by rfl) : JE X E m .sh (.Attribute (.Name x p1) fn pos) (f1 (dFld c fn) (fV i)) := by
  refine ⟨PEimp (pe_fld (pe_var hN hv hd hcd) hb) fun σ H Q h => ?_⟩
  obtain ⟨S, ρ, ⟨hs, Fp, en⟩, hp⟩ := h
  unfold f1 fV at hp
  split at hp
  · rename_i d ed
    obtain ⟨v, e1, o⟩ := en.at_ i d ed
    rw [hmd] at o
    obtain ⟨dx, C, c', fs, ds, rfl, rfl, _, _, _, hC, hq, _, rv⟩ := o
    have k2 : Post X.K X.mg (WE E σ) S H .sh (if c' = c then (match lookF (fs.map (·.1)) ds fn with
      | some d => .ok d
      | none => .er) else .er) Q := hp
    by_cases ec : c' = c
    · rw [if_pos ec] at k2
      subst ec
      obtain ⟨cl, na⟩ := F C hC
      rcases lookF_ok (f := fn) rv with ⟨e2, _⟩ | ⟨d, w, e2, e3, rw'⟩
      · rw [e2] at k2; exact k2.elim
      · rw [e2] at k2
        exact ⟨_, e1, q, C, dx, fs, w, rfl, hq, cl, na, e3, Post.val k2 hs rw'⟩
    · rw [if_neg ec] at k2
      exact k2.elim
  · exact hp.elim
/-- self.f = e -/
def fFld (c fn : Str) (i : Nat) (f : Env → Res D) : FS := fun ρ => match ρ[i]? with
  | some (some (.obj c' ns ds)) => if c' = c ∧ ns.length < 100 then lift (f ρ) ρ fun d => .ok (.nx (ρ.set i (some (.obj c' (putN fn ns) (putD fn d ns ds))))) else .er
  | _ => .er
/-- the object of slot i is written -/
theorem StF.writeO {K : PySem.W.Frag} {mg : Str → Option Value} {S0 H0 S H : Hp} {Fp : Nat → List Addr} {σ : L2.St} {ρ : Env} {i : Nat} {d0 : D} {p dx C : Addr} {c : Str} {gs : List (Str × V)} {ys : List D} (st : StF K mg m S0 H0 S Fp σ ρ H) (hmd : mdAt m i = .ob p) (hρ : ρ[i]? = some (some d0))
    (hp : Fp i = [p, dx]) (hσ : σ[i]? = some (some (.ref p))) (sp : S p = none) (sd : S dx = none) (hC : mg c = some (.ref C)) (hdx : H dx = some (.own p)) (r : RepL K mg S (gs.map (·.2)) ys) : StF K mg m S0 H0 S Fp σ (ρ.set i (some (.obj c (gs.map (·.1)) ys))) (upd H p (.ins C dx gs)) := by
  obtain ⟨s, e, nw⟩ := st
  have hil : i < ρ.length := (List.getElem?_eq_some_iff.mp hρ).1
  have h0 : H0 p = none := nw i _ hρ p (by rw [hp]; exact List.mem_cons_self)
  have hne : dx ≠ p := fun z => by
    have := e.nd i _ hρ
    rw [hp, z] at this
    simp at this
  have key : ∀ j d', (ρ.set i (some (.obj c (gs.map (·.1)) ys)))[j]? = some (some d') → (j = i ∧ d' = .obj c (gs.map (·.1)) ys) ∨ (j ≠ i ∧ ρ[j]? = some (some d')) := fun j d' ej => by
    by_cases hj : j = i
    · subst hj
      rw [List.getElem?_set_self hil] at ej
      injection ej with z; injection z with z
      exact .inl ⟨rfl, z.symm⟩
    · rw [List.getElem?_set_ne (Ne.symm hj)] at ej
      exact .inr ⟨hj, ej⟩
  have same : ∀ {B : Hp}, Same B H → B p = none → Same B (upd H p (.ins C dx gs)) := fun hB hb a o ea => by
    rw [upd_ne (ne_of_none ea hb)]
    exact hB a o ea
  refine ⟨⟨same s.hh h0, s.ss, same s.sub sp, s.new⟩, ⟨by rw [List.length_set]; exact e.len, fun j d' ej => ?_, fun j d' ej => ?_, fun j k d1 d2 hjk e1 e2 => ?_⟩, fun j d' ej => ?_⟩
  · rcases key j d' ej with ⟨rfl, rfl⟩ | ⟨hj, ej'⟩
    · refine ⟨_, hσ, ?_⟩
      rw [hmd]
      exact ⟨dx, C, c, gs, ys, rfl, rfl, hp, sp, sd, hC, upd_same, by rw [upd_ne hne]; exact hdx, r⟩
    · obtain ⟨w, e1, o1⟩ := e.at_ j d' ej'
      exact ⟨w, e1, o1.other sp fun z => e.apart i j _ d' (Ne.symm hj) hρ ej' p (by rw [hp]; exact List.mem_cons_self) z⟩
  · rcases key j d' ej with ⟨rfl, rfl⟩ | ⟨hj, ej'⟩
    · exact e.nd _ _ hρ
    · exact e.nd j d' ej'
  · have live : ∀ j d', (ρ.set i (some (.obj c (gs.map (·.1)) ys)))[j]? = some (some d') → ∃ d'', ρ[j]? = some (some d'') := fun j d' ej => by
      rcases key j d' ej with ⟨rfl, _⟩ | ⟨_, ej'⟩
      · exact ⟨_, hρ⟩
      · exact ⟨_, ej'⟩
    obtain ⟨d1', h1⟩ := live j d1 e1
    obtain ⟨d2', h2⟩ := live k d2 e2
    exact e.apart j k d1' d2' hjk h1 h2
  · rcases key j d' ej with ⟨rfl, rfl⟩ | ⟨hj, ej'⟩
    · exact nw _ _ hρ
    · exact nw j d' ej'
theorem js_fld (c : Str) (i : Nat) (F : FldAt X.K X.mg c fn) (he : JE X E m .sh e f) {q : Addr} (hmd : mdAt m i = .ob q := by rfl) (hN : X.N[i]? = some x := by rfl) (hv : Vis X.env.scope x := by first | exact Or.inl rfl | exact Or.inr (Or.inl rfl) | exact Or.inr (Or.inr rfl))
    (hd : (x == ("__debug__" : Str)) = false := by decide) (hcd : (x == ("__classdict__" : Str)) = false := by decide) (hs : swapsWith e (some (.Attribute (.Name x p1) fn p2)) pos.line X.env = pure false := by rfl) :
    JS X E L m m (.Assign [.Attribute (.Name x p1) fn p2] e pos) (fFld c fn i f) := by
  refine ⟨PSimp (ps_fld (pe_var hN hv hd hcd) he.pe hs) fun D σ H h => ?_⟩
  obtain ⟨S0, H0, ρ, ⟨S, Fp, st⟩, p⟩ := h
  unfold fFld at p
  split at p
  · rename_i c' ns ds exs
    by_cases hc : c' = c ∧ ns.length < 100
    · rw [if_pos hc] at p
      obtain ⟨rfl, hl⟩ := hc
      refine ⟨S, ρ, st.envM, (lift_post st p).post fun d v S1 H1 s1 r k => ?_⟩
      have st1 := st.step s1
      obtain ⟨w, e1, o⟩ := st1.2.1.at_ i _ exs
      rw [hmd] at o
      obtain ⟨dx, C, c2, gs, ys, rfl, ed, e3, e4, e5, e6, e7, e8, e9⟩ := o
      cases ed
      obtain ⟨cl, na⟩ := F C e6
      obtain ⟨k1, k2⟩ := putF_ok (f := fn) r e9
      refine ⟨_, e1, q, C, dx, gs, rfl, e7, cl, na, by rw [List.length_map] at hl; omega, ?_⟩
      have w := st1.writeO (gs := putF fn v gs) (ys := putD fn d (gs.map (·.1)) ds) hmd exs e3 e1 e4 e5 e6 e8 k2
      rw [k1] at w
      exact k σ _ w.stM
    · rw [if_neg hc] at p
      exact p.elim
  · exact p.elim
end
end Da
namespace Da
open PySem PySem.Spec L2
/-- what an __init__ promises: the new object at p, told by f of the arguments -/
def spI (K : PySem.W.Frag) (mg : Str → Option Value) (np : Nat) (c : Str) (f : List D → Res D) : Sp := fun vs H Q E => ∃ (S : Hp) (p dx C : Addr) (us : List V) (ds : List D), vs = .ref p :: us ∧ Same S H ∧ S p = none ∧ S dx = none ∧ dx ≠ p ∧ mg c = some (.ref C) ∧ H p = some (.ins C dx []) ∧ H dx = some (.own p) ∧ RepL K mg S us ds ∧ ds.length = np ∧
  (match f ds with
  | .ok d => ∀ S' H' fp, Step S (fun a => if a = p ∨ a = dx then none else H a) S' H' → OwnAt K mg S' H' fp (.ref p) d (.ob p) → fp.Nodup → (∀ a, a ∈ fp → a = p ∨ a = dx ∨ H a = none) → Q .non H'
  | .ex c fs => ∀ S' H' cls dd, Step S (fun a => if a = p ∨ a = dx then none else H a) S' H' → ExcAt K mg S' H' cls dd c fs → E cls dd H'
  | .er => False)
/-- the run of an __init__ -/
def runI (n : Nat) (c : Str) (F : FS) (ds : List D) : Res D := match F (some (.obj c [] []) :: (ds.map some ++ List.replicate (n - 1 - ds.length) none)) with
  | .ok (.nx ρ) => (match ρ[0]? with
    | some (some d) => .ok d
    | _ => .er)
  | .ok (.xc c fs _) => .ex c fs
  | _ => .er
section
variable {P : Program} {w : World} {K : PySem.W.Frag} {mg : Str → Option Value} {base : Heap}
theorem fn_okI {x qual c : Str} {st : Stmt} {f : Addr} {fd : FuncData} {N ps : List Str} {k np : Nat} {F : FS} (Fn : Fun K x qual st f fd) (Sc : FnScope N ps (defScope st)) (hnp : ps.length ≤ N.length) (hps : ps.length = np + 1)
    (h : ∀ (p : Addr) (cdv : Value) (A : Around) (outer : List PySem.Env) (s : Shared) (H : Hp) (E : XK), Room k (A.deeper (PyProof.Rows.envOfC qual (defScope st) s.heap.objs.size f cdv)) →
      JSs (cxOf (L2.CX P w) P w K mg base N qual (defScope st) f cdv A outer s H E) (fun cls d _ H => E cls d H) ⟨[], [], .dt⟩ (.ob p :: msh (N.length - 1)) (.ob p :: msh (N.length - 1)) (defBody st) F) :
    FnOk P w K mg base (L2.CX P w) (k + 1) f fd ps (spI K mg np c (runI N.length c F)) := by
  refine Fn.okX Sc (fun vs H Q E hsp => ?_) (fun cdv A outer s H vs Q E hr hsp => ?_)
  · obtain ⟨S, p, dx, C, us, ds, rfl, _, _, _, _, _, _, _, rv, hl, _⟩ := hsp
    rw [List.length_cons, rv.len, hl, hps]
  · obtain ⟨S, p, dx, C, us, ds, rfl, hs, sp, sd, hne, hC, hp, hd, rv, hl, hq⟩ := hsp
    have hN : N.length = np + 1 + (N.length - 1 - np) := by omega
    let H0 : Hp := fun a => if a = p ∨ a = dx then none else H a
    have h0 : ∀ a, (a = p ∨ a = dx) → H0 a = none := fun a z => if_pos z
    have h0H : Same H0 H := fun a o e => by
      have e : (if a = p ∨ a = dx then none else H a) = some o := e
      split at e
      · cases e
      · exact e
    have ml : ∀ j, j ≠ 0 → mdAt (.ob p :: msh (N.length - 1)) j = .sh := fun j hj => by
      obtain ⟨i, rfl⟩ : ∃ i, j = i + 1 := ⟨j - 1, by omega⟩
      show mdAt (msh _) i = .sh
      exact mdAt_msh
    let Fp : Nat → List Addr := fun i => if i = 0 then [p, dx] else []
    refine ⟨_, (h p cdv A outer s H E hr).ps, S, H0, some (.obj c [] []) :: (ds.map some ++ List.replicate (N.length - 1 - ds.length) none), ⟨S, Fp, ⟨h0H, Same.refl _, hs, fun _ z => .inl z⟩, ⟨?_, fun i d e => ?_, fun i d e => ?_, fun i j d e hij e1 e2 a ha => ?_⟩, fun i d e a ha => ?_⟩, ?_⟩
    · unfold L2.start
      rw [List.length_append, List.length_cons, List.length_append, List.length_map, List.length_map, List.length_replicate, List.length_replicate, List.length_cons, rv.len]
      omega
    · cases i with
      | zero =>
        rw [List.getElem?_cons_zero] at e
        have e : D.obj c [] [] = d := by injection e with e; injection e
        subst e
        refine ⟨.ref p, ?_, ?_⟩
        · unfold L2.start
          rfl
        · exact ⟨dx, C, c, [], [], rfl, rfl, rfl, sp, sd, hC, hp, hd, .nil⟩
      | succ i =>
        rw [List.getElem?_cons_succ] at e
        by_cases hi : i < ds.length
        · rw [List.getElem?_append_left (by rw [List.length_map]; exact hi), List.getElem?_map, List.getElem?_eq_getElem hi] at e
          have e' : ds[i] = d := by injection e with e; injection e
          obtain ⟨v, ev, r⟩ := rv.get (List.getElem?_eq_getElem hi)
          refine ⟨v, ?_, ?_⟩
          · unfold L2.start
            rw [List.map_cons, List.cons_append, List.getElem?_cons_succ, List.getElem?_append_left (by rw [List.length_map, rv.len]; exact hi), List.getElem?_map, ev]
            rfl
          · rw [ml _ (by omega), ← e']
            exact ⟨r, rfl⟩
        · rw [List.getElem?_append_right (by rw [List.length_map]; omega), List.getElem?_replicate] at e
          split at e <;> cases e
    · cases i with
      | zero =>
        show [p, dx].Nodup
        simp
        exact fun z => hne z.symm
      | succ i => exact List.nodup_nil
    · cases i with
      | zero =>
        cases j with
        | zero => exact absurd rfl hij
        | succ j => exact fun z => nomatch z
      | succ i => cases ha
    · cases i with
      | zero =>
        have : a = p ∨ a = dx := by simpa [Fp] using ha
        exact h0 a this
      | succ i => cases ha
    · unfold runI at hq
      cases ef : F (some (.obj c [] []) :: (ds.map some ++ List.replicate (N.length - 1 - ds.length) none)) with
      | ok o =>
        rw [ef] at hq
        cases o with
        | nx ρ =>
          intro σ' H' ⟨S', F', st'⟩
          simp only at hq
          cases e0 : ρ[0]? with
          | none => rw [e0] at hq; exact hq.elim
          | some d0 =>
            cases d0 with
            | none => rw [e0] at hq; exact hq.elim
            | some d =>
              rw [e0] at hq
              obtain ⟨v, _, o⟩ := st'.2.1.at_ 0 d e0
              have o : OwnAt K mg S' H' (F' 0) v d (.ob p) := o
              have ev : v = .ref p := by
                obtain ⟨_, _, _, _, _, e, _⟩ := o
                exact e
              subst ev
              refine hq S' H' (F' 0) st'.1 o (st'.2.1.nd 0 d e0) fun a ha => ?_
              have := st'.2.2 0 d e0 a ha
              by_cases z : a = p ∨ a = dx
              · rcases z with z | z
                · exact .inl z
                · exact .inr (.inl z)
              · have this : (if a = p ∨ a = dx then none else H a) = none := this
                rw [if_neg z] at this
                exact .inr (.inr this)
        | rt d => exact hq.elim
        | bk ρ => exact hq.elim
        | ct ρ => exact hq.elim
        | xc c fs ρ => exact fun σ' S' F' H' cls dd st' x' => hq S' H' cls dd st'.1 x'
      | ex c fs => rw [ef] at hq; exact hq.elim
      | er => rw [ef] at hq; exact hq.elim
end
section
variable {X : Cx} {E : WX} {m : Mds} {e o : Expr} {es : List Expr} {fs : Env → Res (List D)} {p pos apos : Pos} {c mn : Str} {k np : Nat} {f C : Addr} {fd : FuncData} {ps : List Str} {g : List D → Res D} {fa : Env → Res D}
/-- the class of this name makes its objects by g -/
def KeepsI (P : Program) (w : World) (K : PySem.W.Frag) (mg : Str → Option Value) (base : Heap) (c : Str) (k : Nat) (ps : List Str) (np : Nat) (g : List D → Res D) : Prop :=
  ∃ C f fd, mg c = some (.ref C) ∧ Mk K C f ∧ Binds K fd ps [] ∧ FnOk P w K mg base (L2.CX P w) k f fd ps (spI K mg np c g)
theorem make_run {E : XK} {sp : Sp} {pins : List (Addr × Obj)} {σ : L2.St} {H : Hp} {s : Shared} {Q : VK} {us : List Value} {vs : List V} (M : Mk X.K C f) (F : FnOk X.prog X.w X.K X.mg X.base (L2.CX X.prog X.w) k f fd ps sp) (hr : Room (k + 1) X.A) (hb : Binds X.K fd ps []) (hx : PassesAt (L2.CX X.prog X.w) X σ E) (I : Inv X pins σ H s) (rv : Vals vs us)
    (h : ∀ x dx, H x = none → H dx = none → dx ≠ x → sp (.ref x :: vs) (upd (upd H dx (.own x)) x (.ins C dx [])) (fun v H2 => v = .non ∧ Q (.ref x) H2) E) : wpAny (model X.prog X.w) X.A (call (.ref C) us) (EP X pins σ Q) X.xe s := by
  have n1 := I.hok.fresh (Nat.le_succ s.heap.objs.size)
  have n2 := I.hok.fresh (Nat.le_refl s.heap.objs.size)
  have hq := h (s.heap.objs.size + 1) s.heap.objs.size n1 n2 (Nat.ne_of_lt (Nat.lt_succ_self _))
  have J := Inv.made (C := C) I
  have rr : Vals (V.ref (s.heap.objs.size + 1) :: vs) (Value.ref (s.heap.objs.size + 1) :: us) := .cons rfl rv
  have hl : (Value.ref (s.heap.objs.size + 1) :: us).length = ps.length := rr.length.symm.trans (F.len _ _ _ _ hq)
  have bnd := hb _ (Value.ref (s.heap.objs.size + 1) :: us) J.kIn (by rw [List.append_nil]; exact hl)
  rw [List.append_nil] at bnd
  refine wpAny_call (make_map (f := f) I.kIn M.makes M.init (beq_iff_eq.mp M.fn) (codeAny_mono (F.run _ X.stack _ _ ⟨Value.ref (s.heap.objs.size + 1) :: us, []⟩ _ _ _ E (hr.make C us []) (J.env0.make C us []) bnd rr hq) fun fin s' hf => ?_))
  cases fin with
  | error u => exact hx pins _ _ u s' J hf
  | ok fl =>
    cases fl with
    | ret u =>
      obtain ⟨v, H', I3, ru, ev, q3⟩ := J.after hf
      subst ev
      exact ⟨ru, V.ref (s.heap.objs.size + 1), H', I3, rfl, q3⟩
    | _ => exact hf.elim
theorem je_make (G : KeepsI X.prog X.w X.K X.mg X.base c k ps np g) (hr : Room (k + 1) X.A) (tk : Takes X E) (ha : JA X E m (e :: es) fs) (hg : Gl X c := by rfl) (hdb : (c == ("__debug__" : Str)) = false := by decide)
    (he : starEach (e :: es) X.env = (false, eval e X.env) :: starEach es X.env := by rfl) (hpl : (backTo pos (starEach es X.env)).any (·.1) = false := by rfl) : JE X E m .sh (.Call (.Name c p) (e :: es) [] pos) (fOn (chk np g) fs) := by
  obtain ⟨C, f, fd, hC, M, hb, F⟩ := G
  refine ⟨⟨fun pins s σ H Q I h => ?_⟩⟩
  obtain ⟨S, ρ, hm, hp⟩ := h
  refine wpAny_Call_Name_kw (ld_glob I hg hC ?_ hdb)
  refine PySem.W.callWith_K (h₀ := X.base) I.ok.mod.kin M.kp (thn (ha.pa.run pos pins s σ H _ I ⟨S, ρ, hm, (Post.bind hp).imp fun ds S1 H1 s1 k1 => ?_⟩) fun us s1 ⟨vs, H1, I1, r, q⟩ => ⟨I1.kIn, make_run (E := WE E σ) (sp := spI X.K X.mg np c g) M F hr hb (passAt tk σ) I1 r q⟩) he hpl
  intro vs rs x dx hx hdx hne
  obtain ⟨hl, k1⟩ := k1.chkd
  have sx : S1 x = none := s1.sub.free hx
  have sd : S1 dx = none := s1.sub.free hdx
  have same : ∀ {B : Hp}, Same B H1 → Same B (upd (upd H1 dx (.own x)) x (.ins C dx [])) := fun hB a o ea => by
    have ea' := hB a o ea
    rw [upd_ne (ne_of_none ea' hx), upd_ne (ne_of_none ea' hdx)]
    exact ea'
  refine ⟨S1, x, dx, C, vs, ds, rfl, same s1.sub, sx, sd, hne, hC, upd_same, by rw [upd_ne hne, upd_same], rs, hl, ?_⟩
  have back : ∀ {S' H' : Hp}, Step S1 (fun a => if a = x ∨ a = dx then none else upd (upd H1 dx (.own x)) x (.ins C dx []) a) S' H' → Step S1 H1 S' H' := fun {S' H'} st => by
    refine ⟨fun a o ea => st.hh a o ?_, st.ss, st.sub, fun a ha => ?_⟩
    · show (if a = x ∨ a = dx then none else upd (upd H1 dx (.own x)) x (.ins C dx []) a) = some o
      have na : ¬ (a = x ∨ a = dx) := fun z => by
        rcases z with z | z
        · rw [z, hx] at ea; cases ea
        · rw [z, hdx] at ea; cases ea
      rw [if_neg na]
      exact same (Same.refl H1) a o ea
    · rcases st.new a ha with z | z
      · exact .inl z
      · have z : (if a = x ∨ a = dx then none else upd (upd H1 dx (.own x)) x (.ins C dx []) a) = none := z
        by_cases na : a = x ∨ a = dx
        · rcases na with rfl | rfl
          · exact .inr hx
          · exact .inr hdx
        · rw [if_neg na] at z
          refine .inr ?_
          rw [upd_ne (fun y => na (.inl y)), upd_ne (fun y => na (.inr y))] at z
          exact z
  cases eg : g ds with
  | ok d =>
    rw [eg] at k1
    intro S' H' fp st o hn hf
    refine ⟨rfl, ?_⟩
    -- the object is shared from here on
    have st' := back st
    let A : Addr → Prop := fun a => a ∈ fp
    have ho : ∀ a, A a → S' a = none := fun a ha => (o.out ha).1
    refine k1 (.ref x) (take S' H' A) H' [] ⟨st'.hh, st'.ss.trans (take_same st'.sub ho), take_sub st'.sub, fun a y => ?_⟩ ⟨o.shared st'.sub ho fun a ha => ha, rfl⟩ List.nodup_nil (fun a z => nomatch z)
    by_cases z : A a
    · rcases hf a z with q | q | q
      · rw [q]; exact .inr hx
      · rw [q]; exact .inr hdx
      · refine .inr ?_
        cases e1 : H1 a with
        | none => rfl
        | some u => rw [same (Same.refl H1) a u e1] at q; cases q
    · rw [take_out z] at y
      exact st'.new a y
  | ex c' fs' =>
    rw [eg] at k1
    exact fun S' H' cls dd st x' => k1 S' H' cls dd (back st) x'
  | er => rw [eg] at k1; exact k1.elim
/-- the method mn of the class c does what g does -/
def KeepsM (P : Program) (w : World) (K : PySem.W.Frag) (mg : Str → Option Value) (base : Heap) (c mn : Str) (k : Nat) (ps : List Str) (np : Nat) (md : Md) (g : List D → Res D) : Prop :=
  ∃ C f fd, mg c = some (.ref C) ∧ Cls K C ∧ Meth K C mn f ∧ Binds K fd ps [] ∧ FnOk P w K mg base (L2.CX P w) k f fd ps (spD K mg np md g)
/-- o.m(..): the object's class, no field of that name -/
def fMeth (c mn : Str) (np : Nat) (g : List D → Res D) (fa : Env → Res D) (fs : Env → Res (List D)) : Env → Res D := fun ρ => (fa ρ).bind fun x => match x with
  | .obj c' ns ds => if c' = c ∧ lookF ns ds mn = none then (fs ρ).bind fun ys => chk np g (x :: ys) else .er
  | _ => .er
end
end Da
namespace Da
open PySem PySem.Spec L2
/-- the j-th statement of a class -/
def inCls (s : Stmt) (j : Nat) : Stmt := match s with
  | .ClassDef _ _ _ body _ _ _ _ _ _ _ => body.getD j (.Pass ⟨0, 0, 0, 0⟩)
  | _ => .Pass ⟨0, 0, 0, 0⟩
def InitAt (K : PySem.W.Frag) (mg : Str → Option Value) (c qual : Str) (st : Stmt) (ps : List Str) : Prop := ∃ C f fd, mg c = some (.ref C) ∧ Mk K C f ∧ Fun K "__init__" qual st f fd ∧ Binds K fd ps []
def MethAt (K : PySem.W.Frag) (mg : Str → Option Value) (c mn qual : Str) (st : Stmt) (ps : List Str) : Prop := ∃ C f fd, mg c = some (.ref C) ∧ Cls K C ∧ Meth K C mn f ∧ Fun K mn qual st f fd ∧ Binds K fd ps []
section
variable {P : Program} {w : World} {K : PySem.W.Frag} {mg : Str → Option Value} {base h : Heap} {c mn qual : Str} {st : Stmt} {ps N : List Str} {k np : Nat} {md : Md} {F : FS} {f C : Addr} {oc : Value} {od an : Option Addr} {osl : Array (Option Value)} {kV doc pm cdv ct : Value}
theorem keepsI_of (dA : InitAt K mg c qual st ps) (Sc : FnScope N ps (defScope st)) (hnp : ps.length ≤ N.length) (hps : ps.length = np + 1)
    (h : ∀ (f p : Addr) (cdv : Value) (A : Around) (outer : List PySem.Env) (s : Shared) (H : Hp) (E : XK), Room k (A.deeper (PyProof.Rows.envOfC qual (defScope st) s.heap.objs.size f cdv)) →
      JSs (cxOf (L2.CX P w) P w K mg base N qual (defScope st) f cdv A outer s H E) (fun cls d _ H => E cls d H) ⟨[], [], .dt⟩ (.ob p :: msh (N.length - 1)) (.ob p :: msh (N.length - 1)) (defBody st) F) : KeepsI P w K mg base c (k + 1) ps np (runI N.length c F) := by
  obtain ⟨C, f, fd, hC, M, Fn, bd⟩ := dA
  exact ⟨C, f, fd, hC, M, bd, fn_okI Fn Sc hnp hps (h f)⟩
theorem keepsM_of (dA : MethAt K mg c mn qual st ps) (Sc : FnScope N ps (defScope st)) (hnp : ps.length ≤ N.length)
    (h : ∀ (f : Addr) (cdv : Value) (A : Around) (outer : List PySem.Env) (s : Shared) (H : Hp) (E : XK), Room k (A.deeper (PyProof.Rows.envOfC qual (defScope st) s.heap.objs.size f cdv)) →
      JSs (cxOf (L2.CX P w) P w K mg base N qual (defScope st) f cdv A outer s H E) (fun cls d _ H => E cls d H) ⟨[], [], md⟩ (msh N.length) (msh N.length) (defBody st) F) : KeepsM P w K mg base c mn (k + 1) ps ps.length md (runF N.length md F) := by
  obtain ⟨C, f, fd, hC, cl, me, Fn, bd⟩ := dA
  exact ⟨C, f, fd, hC, cl, me, bd, fn_ok Fn Sc hnp (h f)⟩
theorem cls_mk (pg : PySem.W.plainGet K C Str.empty = true) (hd : PySem.W.hasDictIn K C = true) (po : PySem.W.plainOver K C = true) (sa : PySem.W.findIn K (.ref C) "__setattr__" = some (some (.builtin "object.__setattr__"))) : Cls K C := ⟨pg, hd, po, sa⟩
theorem fldAt_mk {fn : Str} (X : K.In h) (G : h.Ns mainGlobals mg) (a : PySem.W.nsIn K mainGlobals c = some (some (.ref C))) (cl : Cls K C) (n : PySem.W.findIn K (.ref C) fn = some none) : FldAt K mg c fn := fun C' hC' => by
  rw [PySem.W.mg_of X G a] at hC'
  injection hC' with z
  injection z with z
  rw [← z]
  exact ⟨cl, n⟩
theorem initAt_mk (X : K.In h) (G : h.Ns mainGlobals mg) (a : PySem.W.nsIn K mainGlobals c = some (some (.ref C))) (m1 : PySem.W.makesIn K C = true) (m2 : PySem.W.findIn K (.ref C) "__init__" = some (some (.ref f))) (m3 : PySem.W.isFn K (.ref f) = true) (m4 : PySem.W.keepIn K (.ref C) = true)
    (l : K.lookup f = some ⟨oc, od, .func (PySem.W.fnOf "__init__" qual (defArgs st) (defBody st) (defScope st) .none kV doc pm an cdv ct), osl⟩) (cd : PySem.W.codeIn K cdv qual = true) (kf : PySem.W.keepIn K (.ref f) = true)
    (hb : ∀ (kV doc pm : Value) (an : Option Addr) (cdv ct : Value) (us : List Value), us.length = ps.length → bindArgs (PySem.W.fnOf "__init__" qual (defArgs st) (defBody st) (defScope st) .none kV doc pm an cdv ct) ⟨us, []⟩ = pure (ps.zip us)) : InitAt K mg c qual st ps := by
  have Fn := fun_mk (st := st) l cd kf
  exact ⟨C, f, _, PySem.W.mg_of X G a, ⟨m1, m2, m3, m4⟩, Fn, Fn.binds hb⟩
theorem methAt_mk (X : K.In h) (G : h.Ns mainGlobals mg) (a : PySem.W.nsIn K mainGlobals c = some (some (.ref C))) (cl : Cls K C) (m2 : PySem.W.findIn K (.ref C) mn = some (some (.ref f))) (m3 : PySem.W.isFn K (.ref f) = true)
    (l : K.lookup f = some ⟨oc, od, .func (PySem.W.fnOf mn qual (defArgs st) (defBody st) (defScope st) .none kV doc pm an cdv ct), osl⟩) (cd : PySem.W.codeIn K cdv qual = true) (kf : PySem.W.keepIn K (.ref f) = true)
    (hb : ∀ (kV doc pm : Value) (an : Option Addr) (cdv ct : Value) (us : List Value), us.length = ps.length → bindArgs (PySem.W.fnOf mn qual (defArgs st) (defBody st) (defScope st) .none kV doc pm an cdv ct) ⟨us, []⟩ = pure (ps.zip us)) : MethAt K mg c mn qual st ps := by
  have Fn := fun_mk (st := st) l cd kf
  exact ⟨C, f, _, PySem.W.mg_of X G a, cl, ⟨m2, m3, kf⟩, Fn, Fn.binds hb⟩
end
end Da
namespace Da
open PySem PySem.Spec L2
end Da
namespace Da
open PySem PySem.Spec L2
end Da
namespace Da
open PySem PySem.Spec L2
/-- q is some n over L, n at most B -/
def In (L B : Nat) (q : Rat) : Prop := ∃ n : Int, q = (n : Rat) / ((L : Int) : Rat) ∧ n.natAbs ≤ B
theorem In.add {L A B : Nat} {p q : Rat} (h : In L A p) (h' : In L B q) : In L (A + B) (p + q) := by
  obtain ⟨n, rfl, hn⟩ := h
  obtain ⟨k, rfl, hk⟩ := h'
  refine ⟨n + k, ?_, Nat.le_trans (Int.natAbs_add_le n k) (Nat.add_le_add hn hk)⟩
  rw [Rat.intCast_add]
  grind
theorem In.zero {L : Nat} : In L 0 0 := ⟨0, by grind, by simp⟩
def sumQ (qs : List Rat) : Rat := qs.foldl (· + ·) 0
theorem sumQ_snoc (qs : List Rat) (q : Rat) : sumQ (qs ++ [q]) = sumQ qs + q := by unfold sumQ; rw [List.foldl_append]; rfl
theorem In.sum {L B : Nat} {qs : List Rat} (h : ∀ q ∈ qs, In L B q) (n : Nat) : In L (n * B) (sumQ (qs.take n)) := by
  induction n with
  | zero => simp [sumQ]; exact In.zero
  | succ n ih =>
    cases e : qs[n]? with
    | none =>
      have : qs.take (n + 1) = qs.take n := by
        rw [List.take_of_length_le, List.take_of_length_le] <;> have := List.getElem?_eq_none_iff.mp e <;> omega
      rw [this]
      obtain ⟨k, ek, hk⟩ := ih
      exact ⟨k, ek, Nat.le_trans hk (Nat.mul_le_mul_right B (Nat.le_succ n))⟩
    | some q =>
      rw [List.take_succ, e, Option.toList_some, sumQ_snoc, Nat.succ_mul]
      exact ih.add (h q (List.mem_of_getElem? e))
end Da
namespace Da
open PySem PySem.Spec L2
def F_law_same (rec : List D → Res D) : FS := (fSeq (fIfS (fOr (fTr (f1 (dIsi "tuple") (fV 1))) (fTr (f1 (dIsi "list") (fV 1)))) (fSeq (fIfS (fOr (fNot (fTr (f1 (dIsi "tuple") (fV 0)))) (fB (f2 dNe (fOn (on1 dLen) (fA (fV 0) fA0)) (fOn (on1 dLen) (fA (fV 1) fA0))))) (fRet (fC (.bl false))) fNext)
    (fSeq (fFor (fR1 (fA (fOn (on1 dLen) (fA (fV 1) fA0)) fA0)) (gN 2) (fIfS (fNot (fTr (fOn (chk 2 rec) (fA (f2 dIx (fV 0) (fV 2)) (fA (f2 dIx (fV 1) (fV 2)) fA0))))) (fRet (fC (.bl false))) fNext))
    (fRet (fC (.bl true))))) fNext)
    (fSeq (fIfS (fB (f1 dIsN (fV 1))) (fRet (f1 dIsN (fV 0))) fNext)
    (fSeq (fIfS (fB (f1 (dIsB true) (fV 1))) (fRet (f1 (dIsB true) (fV 0))) fNext)
    (fSeq (fIfS (fB (f1 (dIsB false) (fV 1))) (fRet (f1 (dIsB false) (fV 0))) fNext)
    (fSeq (fIfS (fTr (f1 (dIsi "str") (fV 1))) (fRet (fBv (fAnd (fB (f1 (dIsi "str") (fV 0))) (fB (f2 dEq (fV 0) (fV 1)))))) fNext)
    (fRet (fBv (fAnd (fB (fOn (chk 1 m_law_whole) (fA (fV 0) fA0))) (fB (f2 dEq (fV 0) (fV 1)))))))))))
def r_law_same : Nat → List D → Res D
  | 0 => fun _ => .er
  | n + 1 => runF 3 .sh (F_law_same (r_law_same n))
def m_law_same : List D → Res D := r_law_same 6
theorem In.mono {L A B : Nat} {q : Rat} (h : In L A q) (hab : A ≤ B) : In L B q := by
  obtain ⟨n, e, hn⟩ := h
  exact ⟨n, e, Nat.le_trans hn hab⟩
theorem In.of {t b : Int} {L : Nat} (k : Nat) (hb : 0 < b) (h0 : 0 < L) (hk : b * k = L) : In L (t.natAbs * k) ((t : Rat) / (b : Rat)) := by
  refine ⟨t * k, ?_, by rw [Int.natAbs_mul, Int.natAbs_natCast]; exact Nat.le_refl _⟩
  have hkn : (k : Int) ≠ 0 := by
    intro h
    rw [h, Int.mul_zero] at hk
    omega
  have h1 : ((k : Int) : Rat) ≠ 0 := by exact_mod_cast hkn
  have h2 : (b : Rat) ≠ 0 := by exact_mod_cast (show b ≠ 0 by omega)
  rw [← hk, Rat.intCast_mul, Rat.intCast_mul]
  generalize ((k : Int) : Rat) = x at *
  generalize (b : Rat) = y at *
  generalize (t : Rat) = z at *
  grind
end Da
namespace Da
open PySem PySem.Spec L2
def lc2Go (g : D → Env → Res Env) (c : Env → Res Bool) (vs1 : List Nat) (it1 : Env → Res (List D)) (g1 : D → Env → Res Env) (c1 : Env → Res Bool) (f : Env → Res D) (ρ : Env) : List D → Res (List D)
  | [] => .ok []
  | x :: xs => match g x ρ with
    | .ok ρ1 => (match c ρ1 with
      | .ok b => if b = true then (match it1 ρ1 with
        | .ok ys => (match lcGo g1 c1 f (wipeD ρ1 vs1) ys with
          | .ok zs => (match lc2Go g c vs1 it1 g1 c1 f ρ xs with
            | .ok ws => .ok (zs ++ ws)
            | _ => .er)
          | _ => .er)
        | _ => .er) else lc2Go g c vs1 it1 g1 c1 f ρ xs
      | _ => .er)
    | _ => .er
def fLc2 (vs : List Nat) (it : Env → Res (List D)) (g : D → Env → Res Env) (c : Env → Res Bool) (vs1 : List Nat) (it1 : Env → Res (List D)) (g1 : D → Env → Res Env) (c1 : Env → Res Bool) (f : Env → Res D) : Env → Res D := fun ρ => (it ρ).bind fun xs => match lc2Go g c vs1 it1 g1 c1 f (wipeD ρ vs) xs with
  | .ok ys => if szOk ys.length = true then .ok (.lst ys) else .er
  | _ => .er
section
variable {K : PySem.W.Frag} {mg : Str → Option Value} {E : WX} {m : Mds} {it it1 : Env → Res (List D)} {g g1 : D → Env → Res Env} {c c1 : Env → Res Bool} {f : Env → Res D} {ts ts1 vs vs1 : List Nat}
/-- the list under way, rest still to come -/
def AcW (K : PySem.W.Frag) (mg : Str → Option Value) (D0 : Addr) (S1 H1 : Hp) (ys rest : List D) (H : Hp) : Prop :=
  ∃ S2 ws ds, Step S1 H1 S2 H ∧ S2 D0 = none ∧ H D0 = some (.lst ws) ∧ RepL K mg S2 ws ds ∧ ys = ds ++ rest
theorem upd_upd {H : Hp} {p : Addr} {o o' : HO} : upd (upd H p o) p o' = upd H p o' := by
  funext a
  by_cases h : a = p
  · subst h; rw [upd_same, upd_same]
  · rw [upd_ne h, upd_ne h, upd_ne h]
theorem upd_self {H : Hp} {p : Addr} {o : HO} (h : H p = some o) : upd H p o = H := by
  funext a
  by_cases e : a = p
  · subst e; rw [upd_same, h]
  · rw [upd_ne e]
theorem Step.swap {S H S' H' : Hp} {p : Addr} {o : HO} (st : Step S H S' H') (hs : S' p = none) : Step S (upd H p o) S' (upd H' p o) := by
  refine ⟨fun b x e => ?_, st.ss, fun b x e => ?_, fun a x => ?_⟩
  · by_cases h : b = p
    · subst h; rw [upd_same] at e ⊢; exact e
    · rw [upd_ne h] at e ⊢; exact st.hh b x e
  · rw [upd_ne (ne_of_none e hs)]
    exact st.sub b x e
  · have h : a ≠ p := fun z => by rw [z] at x; exact x hs
    rw [upd_ne h]
    exact st.new a x
/-- slots beside an object that is written -/
theorem EnvF.aside {m : Mds} {F : Nat → List Addr} {S6 H6 S7 H : Hp} {σ : L2.St} {ρ : Env} {D0 : Addr} {o o7 : HO} (h : EnvF K mg m F S6 H6 σ ρ) (hn : ∀ i d, ρ[i]? = some (some d) → D0 ∉ F i) (st : Step S6 H6 S7 (upd H D0 o)) (h7 : S7 D0 = none) (hD : H D0 = some o7) : EnvF K mg m F S7 H σ ρ := by
  have q := h.step st
  refine ⟨q.len, fun i d e => ?_, q.nd, q.apart⟩
  obtain ⟨v, e1, e2⟩ := q.at_ i d e
  have e3 := e2.other (o := o7) h7 (hn i d e)
  rw [upd_upd, upd_self hD] at e3
  exact ⟨v, e1, e3⟩
/-- slots as of a body before which nothing was but one object, that is none of theirs -/
theorem EnvM.bareX {m : Mds} {S1 H1 S H : Hp} {σ : L2.St} {ρ : Env} {D0 : Addr} {o : HO} (vs : List Nat) (h : EnvM K mg m S1 H1 σ ρ) (hD : H1 D0 = none) (st : Step S1 H1 S H) (hS : S D0 = none) (hH : H D0 = some o) : ∃ F, StF K mg m (fun _ => none) (fun a => if a = D0 then some o else none) S F (L2.wipe σ vs) (wipeD ρ vs) H := by
  obtain ⟨_, F, h⟩ := h
  have hw := h.wipe vs
  refine ⟨F, ⟨fun b x e => ?_, (fun _ _ e => nomatch e), st.sub, fun a x => ?_⟩, hw.step st, fun i d e a ha => ?_⟩
  · have e : (if b = D0 then some o else none) = some x := e
    by_cases hb : b = D0
    · rw [if_pos hb] at e; rw [hb, hH]; exact e
    · rw [if_neg hb] at e; cases e
  · by_cases ha : a = D0
    · rw [ha] at x; exact absurd hS x
    · exact .inr (if_neg ha)
  · obtain ⟨v, _, ow⟩ := hw.at_ i d e
    obtain ⟨_, u, hu⟩ := ow.out ha
    exact if_neg fun z => by rw [z, hD] at hu; cases hu
theorem lc2_ok {σ : L2.St} {H : Hp} {Q : VK} (hts : ∀ t ∈ ts, t ∈ vs) (hts1 : ∀ t ∈ ts1, t ∈ vs1) (h : tE K mg E m .ow (fLc2 vs it g c vs1 it1 g1 c1 f) σ H Q) :
    tLc2 (tI K mg E m it) (tGD K mg m ts g) (tT K mg EF m c) (tI K mg EF m it1) (tGD K mg m ts1 g1) (tT K mg EF m c1) (tE K mg EF m .sh f) vs vs1 σ H Q := by
  obtain ⟨S, ρ, hm, hp⟩ := h
  refine ⟨S, ρ, hm, (Post.bind hp).imp fun xs S1 H1 s1 k J w D0 hD => ?_⟩
  cases eg : lc2Go g c vs1 it1 g1 c1 f (wipeD ρ vs) xs with
  | ex c' fs => rw [eg] at k; exact k.elim
  | er => rw [eg] at k; exact k.elim
  | ok ys =>
    rw [eg] at k
    have k : Post K mg (WE E σ) S1 H1 .ow (if szOk ys.length = true then .ok (.lst ys) else .er) Q := k
    obtain ⟨hz, k⟩ := Post.of_if k
    have hz := szOk_le hz
    refine ⟨fun i n H => n = xs.length - i ∧ i ≤ xs.length ∧ ∃ rest, lc2Go g c vs1 it1 g1 c1 f (wipeD ρ vs) (xs.drop i) = .ok rest ∧ AcW K mg D0 S1 H1 ys rest H, ⟨xs.length, by simp, Nat.zero_le _, ys, eg, S1, [], [], Step.hid s1.sub hD, s1.sub.free hD, upd_same, .nil, rfl⟩, ?_⟩
    rintro i n H2 ⟨rfl, hi, rest, el, S2, ws, ds, st2, hs2, hd2, rv, ey⟩
    by_cases hlt : i < xs.length
    · obtain ⟨hgo, hyl⟩ := w.go i xs[i] S2 H2 (List.getElem?_eq_getElem hlt) st2.ss st2.sub
      refine .inr ⟨hgo, fun H => ∃ rest, lc2Go g c vs1 it1 g1 c1 f (wipeD ρ vs) (xs.drop (i + 1)) = .ok rest ∧ AcW K mg D0 S1 H1 ys rest H, fun H' z => ⟨xs.length - (i + 1), by omega, rfl, hlt, z⟩, fun x H3 y => ?_⟩
      obtain ⟨S3, s3, r3⟩ := hyl x H3 y
      rw [List.drop_eq_getElem_cons hlt] at el
      unfold lc2Go at el
      cases eg1 : g xs[i] (wipeD ρ vs) with
      | ex c' fs => rw [eg1] at el; cases el
      | er => rw [eg1] at el; cases el
      | ok ρ1 =>
        rw [eg1] at el
        simp only at el
        have st3 := st2.trans s3
        obtain ⟨F, stF⟩ := EnvM.bareX vs (hm.step s1) hD st3 (s3.out hs2 hd2) (s3.hh _ _ hd2)
        refine ⟨_, _, S3, F, wipeD ρ vs, xs[i], stF, r3, ?_⟩
        rw [eg1]
        intro σ4 S4 F4 H4 st4 s4 hfr
        refine ⟨wipe_eq (by rw [hfr.1, L2.wipe_length]) hfr.2 hts, S4, ρ1, st4.envM, ?_⟩
        cases ec : c ρ1 with
        | ex c' fs => rw [ec] at el; cases el
        | er => rw [ec] at el; cases el
        | ok b =>
          rw [ec] at el
          simp only at el
          intro S5 H5 s5
          have a5 := (s3.trans s4).trans s5
          have em5 := (st4.envM).step s5
          cases b with
          | false =>
            rw [if_neg (by decide)] at el
            show ∃ rest, lc2Go g c vs1 it1 g1 c1 f (wipeD ρ vs) (xs.drop (i + 1)) = .ok rest ∧ AcW K mg D0 S1 H1 ys rest H5
            exact ⟨rest, el, S5, ws, ds, st2.trans a5, a5.out hs2 hd2, a5.hh _ _ hd2, rv.mono a5.ss, ey⟩
          | true =>
            rw [if_pos rfl] at el
            show tI K mg EF m it1 σ4 H5 _
            refine ⟨S5, ρ1, em5, ?_⟩
            cases ei : it1 ρ1 with
            | ex c' fs => rw [ei] at el; cases el
            | er => rw [ei] at el; cases el
            | ok ys1 =>
              rw [ei] at el
              simp only at el
              cases ez : lcGo g1 c1 f (wipeD ρ1 vs1) ys1 with
              | ex c' fs => rw [ez] at el; cases el
              | er => rw [ez] at el; cases el
              | ok zs =>
                rw [ez] at el
                simp only at el
                cases ew : lc2Go g c vs1 it1 g1 c1 f (wipeD ρ vs) (xs.drop (i + 1)) with
                | ex c' fs => rw [ew] at el; cases el
                | er => rw [ew] at el; cases el
                | ok us =>
                  rw [ew] at el
                  cases el
                  intro S6 H6 s6 J1 w1
                  have a6 := a5.trans s6
                  have em6 := em5.step s6
                  refine ⟨fun j n H => n = ys1.length - j ∧ j ≤ ys1.length ∧ ∃ rest1 S7 ws7 ds7, lcGo g1 c1 f (wipeD ρ1 vs1) (ys1.drop j) = .ok rest1 ∧ Step S6 H6 S7 (upd H D0 (.lst ws)) ∧ Step S1 H1 S7 H ∧ S7 D0 = none ∧ H D0 = some (.lst ws7) ∧ RepL K mg S7 ws7 ds7 ∧ ys = ds7 ++ (rest1 ++ us), ⟨ys1.length, by simp, Nat.zero_le _, zs, S6, ws, ds, ez, ?_, st2.trans a6, a6.out hs2 hd2, a6.hh _ _ hd2, rv.mono a6.ss, ey⟩, ?_⟩
                  · rw [upd_self (a6.hh _ _ hd2)]
                    exact Step.refl s6.sub
                  rintro j n7 H7 ⟨rfl, hj, rest1, S7, ws7, ds7, el1, t7, u7, hs7, hd7, rv7, ey7⟩
                  by_cases hlt1 : j < ys1.length
                  · obtain ⟨hgo1, hyl1⟩ := w1.go j ys1[j] S7 H7 (List.getElem?_eq_getElem hlt1) t7.ss u7.sub
                    refine .inr ⟨hgo1, fun H => ∃ rest1 S7 ws7 ds7, lcGo g1 c1 f (wipeD ρ1 vs1) (ys1.drop (j + 1)) = .ok rest1 ∧ Step S6 H6 S7 (upd H D0 (.lst ws)) ∧ Step S1 H1 S7 H ∧ S7 D0 = none ∧ H D0 = some (.lst ws7) ∧ RepL K mg S7 ws7 ds7 ∧ ys = ds7 ++ (rest1 ++ us), fun H' z => ⟨ys1.length - (j + 1), by omega, rfl, hlt1, z⟩, fun x1 H8 y1 => ?_⟩
                    obtain ⟨S8, s8, r8⟩ := hyl1 x1 H8 y1
                    have nD : ∀ i d, ρ1[i]? = some (some d) → D0 ∉ F4 i := fun i d e z => by
                      have := st4.2.2 i d e D0 z
                      have : (if D0 = D0 then some (HO.lst ws) else none) = none := this
                      rw [if_pos rfl] at this
                      cases this
                    have e6 := (st4.2.1.step s5).step s6
                    have e7 := e6.aside nD t7 hs7 hd7
                    have em8 : EnvM K mg m S8 H8 σ4 ρ1 := ⟨s8.sub, F4, e7.step s8⟩
                    obtain ⟨F8, st8⟩ := (em8.wipe vs1).bare
                    rw [List.drop_eq_getElem_cons hlt1] at el1
                    unfold lcGo at el1
                    cases eg2 : g1 ys1[j] (wipeD ρ1 vs1) with
                    | ex c' fs => rw [eg2] at el1; cases el1
                    | er => rw [eg2] at el1; cases el1
                    | ok ρ2 =>
                      rw [eg2] at el1
                      simp only at el1
                      refine ⟨_, _, S8, F8, wipeD ρ1 vs1, ys1[j], st8, r8, ?_⟩
                      rw [eg2]
                      intro σ9 S9 F9 H9 st9 s9 hfr9
                      refine ⟨wipe_eq (by rw [hfr9.1, L2.wipe_length]) hfr9.2 hts1, S9, ρ2, st9.envM, ?_⟩
                      cases ec1 : c1 ρ2 with
                      | ex c' fs => rw [ec1] at el1; cases el1
                      | er => rw [ec1] at el1; cases el1
                      | ok b1 =>
                        rw [ec1] at el1
                        simp only at el1
                        intro S10 H10 s10
                        have a10 := (s8.trans s9).trans s10
                        cases b1 with
                        | false =>
                          rw [if_neg (by decide)] at el1
                          exact ⟨rest1, S10, ws7, ds7, el1, t7.trans (a10.swap (a10.out hs7 hd7)), u7.trans a10, a10.out hs7 hd7, a10.hh _ _ hd7, rv7.mono a10.ss, ey7⟩
                        | true =>
                          rw [if_pos rfl] at el1
                          show tE K mg EF m Md.sh f σ9 H10 _
                          refine ⟨S10, ρ2, (st9.envM).step s10, ?_⟩
                          cases ef : f ρ2 with
                          | ex c' fs => rw [ef] at el1; cases el1
                          | er => rw [ef] at el1; cases el1
                          | ok z' =>
                            rw [ef] at el1
                            simp only at el1
                            intro v S11 H11 fp s11 o _ _
                            have a11 := a10.trans s11
                            cases er : lcGo g1 c1 f (wipeD ρ1 vs1) (ys1.drop (j + 1)) with
                            | ex c' fs => rw [er] at el1; cases el1
                            | er => rw [er] at el1; cases el1
                            | ok rest2 =>
                              rw [er] at el1
                              cases el1
                              have hl7 := rv7.len
                              have hly : ys.length = ds7.length + (1 + rest2.length + us.length) := by rw [ey7]; simp; omega
                              refine ⟨ws7, a11.hh _ _ hd7, by rw [hl7, sizeLine_eq]; omega, rest2, S11, ws7 ++ [v], ds7 ++ [z'], rfl, ?_, (u7.trans a11).write (a11.out hs7 hd7) hD, a11.out hs7 hd7, upd_same, (rv7.mono a11.ss).snoc o.1, by rw [ey7]; simp⟩
                              rw [upd_upd]
                              exact t7.trans (a11.swap (a11.out hs7 hd7))
                  · have e : j = ys1.length := by omega
                    subst e
                    rw [List.drop_length] at el1
                    cases el1
                    refine .inl ⟨w1.stop S7 H7 t7.ss u7.sub, us, rfl, S7, ws7, ds7, u7, hs7, hd7, rv7, by rw [ey7]; simp⟩
    · have e : i = xs.length := by omega
      subst e
      rw [List.drop_length] at el
      cases el
      rw [List.append_nil] at ey
      subst ey
      exact .inl ⟨w.stop S2 H2 st2.ss st2.sub, k _ S2 H2 [D0] st2 ⟨D0, ws, _, rfl, rfl, rfl, hs2, hd2, rv⟩ (by simp) (fun a z => by
        have : a = D0 := by simpa using z
        rw [this]; exact hD)⟩
end
section
variable {X : Cx} {E : WX} {L : Lp} {m : Mds} {ts ts1 : List Nat} {N0 ps0 : List Str} {sc0 scO : Scope} {elt tg iter tg1 iter1 : Expr} {ifs ifs1 : List Expr} {scope : Scope} {pos : Pos} {it it1 : Env → Res (List D)} {g g1 : D → Env → Res Env} {c c1 : Env → Res Bool} {f : Env → Res D}
theorem je_lc2 (Sc : FnScope N0 ps0 sc0) (own : List (Str × Nat)) (vs1 : List Nat) (hi : JI X E m tg iter it)
    (hg : ∀ (s : Shared) (H : Hp) (C : Addr) (cl : List (Str × Addr)) (fp : List Addr), JG (X.blk s H scope (compEnvC scope cl C X.env) fp) m ts tg g) (ht : ∀ (s : Shared) (H : Hp) (C : Addr) (cl : List (Str × Addr)) (fp : List Addr), JTs (X.blk s H scope (compEnvC scope cl C X.env) fp) EF m ifs c)
    (hi1 : ∀ (s : Shared) (H : Hp) (C : Addr) (cl : List (Str × Addr)) (fp : List Addr), JI (X.blk s H scope (compEnvC scope cl C X.env) fp) EF m tg1 iter1 it1) (hg1 : ∀ (s : Shared) (H : Hp) (C : Addr) (cl : List (Str × Addr)) (fp : List Addr), JG (X.blk s H scope (compEnvC scope cl C X.env) fp) m ts1 tg1 g1) (ht1 : ∀ (s : Shared) (H : Hp) (C : Addr) (cl : List (Str × Addr)) (fp : List Addr), JTs (X.blk s H scope (compEnvC scope cl C X.env) fp) EF m ifs1 c1)
    (he : ∀ (s : Shared) (H : Hp) (C : Addr) (cl : List (Str × Addr)) (fp : List Addr), JE (X.blk s H scope (compEnvC scope cl C X.env) fp) EF m .sh elt f) (hc : X.calm = true := by rfl) (hN0 : X.N = N0 := by rfl) (hsc : X.env.scope = sc0 := by rfl) (ok : blkC N0 (sc0) scope own = true := by decide +kernel) (hts : ∀ t ∈ ts, t ∈ own.map (·.2) := by decide) (hts1 : ∀ t ∈ ts1, t ∈ vs1 := by decide) (hv : ∀ i ∈ vs1, i ∈ own.map (·.2) := by decide)
    (hs : ∀ x, foldedSetIterable iter X.env x = pure x := by intro _; rfl) (hs1 : ∀ env x, foldedSetIterable iter1 env x = pure x := by intro _ _; rfl) : JE X E m .ow (.ListComp elt [⟨tg, iter, ifs, 0⟩, ⟨tg1, iter1, ifs1, 0⟩] scope pos) (fLc2 (own.map (·.2)) it g c vs1 it1 g1 c1 f) :=
  ⟨PEimp (pe_lc2 (g := tGD X.K X.mg m ts g) (tt := tT X.K X.mg EF m c) (wi1 := tI X.K X.mg EF m it1) (g1 := tGD X.K X.mg m ts1 g1) (tt1 := tT X.K X.mg EF m c1) (te := tE X.K X.mg EF m .sh f) hc (by rw [hN0]; exact Sc.nd) hi.pi (blkOk_by (by rw [hN0, hsc]; exact ok)) hv (fun s H C cl fp => (hg s H C cl fp).pg) (fun s H C cl fp => (ht s H C cl fp).pt) (fun s H C cl fp => (hi1 s H C cl fp).pi) (fun s H C cl fp => (hg1 s H C cl fp).pg) (fun s H C cl fp => (ht1 s H C cl fp).pt) (fun s H C cl fp => (he s H C cl fp).pe) hs hs1) fun σ H Q h => lc2_ok hts hts1 h⟩
end
end Da
namespace Da
open PySem PySem.Spec L2
section
variable {X : Cx} {E : WX} {L : Lp} {m : Mds} {e j : Expr} {f fj : Env → Res D} {x : Str} {pos p1 p2 : Pos} {k : Nat}
/-- what slot i owns is written -/
theorem StF.writeG {K : PySem.W.Frag} {mg : Str → Option Value} {S0 H0 S H : Hp} {Fp : Nat → List Addr} {σ : L2.St} {ρ : Env} {i : Nat} {d0 d1 : D} {v : V} {p : Addr} {o : HO} (st : StF K mg m S0 H0 S Fp σ ρ H) (hρ : ρ[i]? = some (some d0)) (hp : Fp i = [p]) (hσ : σ[i]? = some (some v)) (sp : S p = none)
    (ow : OwnAt K mg S (upd H p o) [p] v d1 (mdAt m i)) : StF K mg m S0 H0 S Fp σ (ρ.set i (some d1)) (upd H p o) := by
  obtain ⟨s, en, nw⟩ := st
  have hil : i < ρ.length := (List.getElem?_eq_some_iff.mp hρ).1
  have h0 : H0 p = none := nw i _ hρ p (by rw [hp]; exact List.mem_cons_self)
  have key : ∀ j d', (ρ.set i (some d1))[j]? = some (some d') → (j = i ∧ d' = d1) ∨ (j ≠ i ∧ ρ[j]? = some (some d')) := fun j d' ej => by
    by_cases hj : j = i
    · subst hj
      rw [List.getElem?_set_self hil] at ej
      injection ej with z; injection z with z
      exact .inl ⟨rfl, z.symm⟩
    · rw [List.getElem?_set_ne (Ne.symm hj)] at ej
      exact .inr ⟨hj, ej⟩
  have same : ∀ {B : Hp}, Same B H → B p = none → Same B (upd H p o) := fun hB hb a u ea => by
    rw [upd_ne (ne_of_none ea hb)]
    exact hB a u ea
  have live : ∀ j d', (ρ.set i (some d1))[j]? = some (some d') → ∃ d'', ρ[j]? = some (some d'') := fun j d' ej => by
    rcases key j d' ej with ⟨rfl, _⟩ | ⟨_, ej'⟩
    · exact ⟨_, hρ⟩
    · exact ⟨_, ej'⟩
  refine ⟨⟨same s.hh h0, s.ss, same s.sub sp, s.new⟩, ⟨by rw [List.length_set]; exact en.len, fun j d' ej => ?_, fun j d' ej => ?_, fun j k a b hjk e1 e2 => ?_⟩, fun j d' ej => ?_⟩
  · rcases key j d' ej with ⟨rfl, rfl⟩ | ⟨hj, ej'⟩
    · exact ⟨v, hσ, by rw [hp]; exact ow⟩
    · obtain ⟨w, e1, o1⟩ := en.at_ j d' ej'
      exact ⟨w, e1, o1.other sp fun z => en.apart i j _ d' (Ne.symm hj) hρ ej' p (by rw [hp]; exact List.mem_cons_self) z⟩
  · obtain ⟨d'', h⟩ := live j d' ej
    exact en.nd j d'' h
  · obtain ⟨a', h1⟩ := live j a e1
    obtain ⟨b', h2⟩ := live k b e2
    exact en.apart j k a' b' hjk h1 h2
  · obtain ⟨d'', h⟩ := live j d' ej
    exact nw j d'' h
end
end Da
namespace Da
open PySem PySem.Spec L2
section
variable {X : Cx} {E : WX} {L : Lp} {m : Mds} {ts : List Nat} {N0 ps0 : List Str} {sc0 : Scope} {elt tg iter e j : Expr} {ifs : List Expr} {scope : Scope} {pos p1 p2 p3 p4 : Pos} {it : Env → Res (List D)} {g : D → Env → Res Env} {c : Env → Res Bool} {f fj : Env → Res D} {x : Str}
/-- x[j].append(e) of an own list of own lists -/
def fApp2 (i : Nat) (fj fe : Env → Res D) : FS := fun ρ => match ρ[i]? with
  | some (some (.lst xs)) => lift (fj ρ) ρ fun y => match y with
    | .int z => (match ixN xs.length z with
      | some k => (match xs[k]? with
        | some (.lst us) => lift (fe ρ) ρ fun d => if szOk (us.length + 1) = true then .ok (.nx (ρ.set i (some (.lst (xs.set k (.lst (us ++ [d]))))))) else .er
        | _ => .er)
      | none => .er)
    | _ => .er
  | _ => .er
end
end Da
namespace Da
open PySem PySem.Spec L2
end Da
namespace Da
open PySem PySem.Spec L2
end Da
namespace Da
open PySem PySem.Spec L2
def Rf {α β : Type} (m : Res β) (r : Res α) (e : α → β) : Prop := match r with
  | .ok v => m = .ok (e v)
  | .ex c fs => m = .ex c fs
  | .er => True
section
variable {α β γ δ : Type} {m : Res β} {r : Res α} {e : α → β} {k : β → Res δ} {h : α → Res γ} {o : γ → δ} {v : α}
theorem rf_ok (h : m = .ok (e v)) : Rf m (.ok v) e := h
theorem b_p {d : β} {r : Res γ} (hm : m = .ok d) (hk : Rf (k d) r o) : Rf (m.bind k) r o := by rw [hm]; exact hk
theorem b_i (hm : Rf m r e) (hk : ∀ x, Rf (k (e x)) (h x) o) : Rf (m.bind k) (r.bind h) o := by
  cases r with
  | ok v => rw [show m = _ from hm]; exact hk v
  | ex c fs => rw [show m = _ from hm]; exact rfl
  | er => exact trivial
/-- the same, told by another -/
theorem rf_co {α' : Type} {e' : α' → β} (c : α → α') (hm : Rf m r e) (he : ∀ x, e x = e' (c x)) : Rf m (r.bind fun x => .ok (c x)) e' := by
  cases r with
  | ok v => exact (show m = _ from hm).trans (congrArg _ (he v))
  | ex c fs => exact hm
  | er => exact trivial
/-- without exceptions -/
def nx {α : Type} (r : Res α) : Res α := match r with
  | .ok v => .ok v
  | _ => .er
@[simp] theorem nx_ok {α : Type} {v : α} : nx (.ok v) = .ok v := rfl
theorem rf_use {v : α} (hm : Rf m r e) (hr : r = .ok v) : m = .ok (e v) := by rw [hr] at hm; exact hm
end
section
variable {α γ δ : Type} {ρ : Env} {fa : Env → Res D} {fs : Env → Res (List D)} {k : List D → Res δ} {o : γ → δ}
theorem a_0 {r : Res γ} (h : Rf (k []) r o) : Rf ((fA0 ρ).bind k) r o := h
theorem a_p {d : D} {r : Res γ} (ha : fa ρ = .ok d) (h : Rf ((fs ρ).bind fun xs => k (d :: xs)) r o) : Rf ((fA fa fs ρ).bind k) r o := by
  show Rf (((fa ρ).bind _).bind k) r o
  rw [ha]
  show Rf (((fs ρ).bind fun xs => .ok (d :: xs)).bind k) r o
  revert h
  cases fs ρ <;> exact id
theorem a_i {ra : Res α} {ea : α → D} {h : α → Res γ} (ha : Rf (fa ρ) ra ea) (hk : ∀ x, Rf ((fs ρ).bind fun xs => k (ea x :: xs)) (h x) o) : Rf ((fA fa fs ρ).bind k) (ra.bind h) o := by
  cases ra with
  | ok v => exact a_p ha (hk v)
  | ex c fs' =>
    show ((fa ρ).bind _).bind k = _
    rw [show fa ρ = _ from ha]
    rfl
  | er => exact trivial
end
section
variable {ρ : Env} {fa fb f : Env → Res D} {g : D → Res D} {g2 : D → D → Res D} {c ca cb : Env → Res Bool} {x y z : D} {a b : Bool}
theorem ev1 (ha : fa ρ = .ok x) (hg : g x = .ok z) : f1 g fa ρ = .ok z := by unfold f1; rw [ha]; exact hg
theorem ev2 (ha : fa ρ = .ok x) (hb : fb ρ = .ok y) (hg : g2 x y = .ok z) : f2 g2 fa fb ρ = .ok z := by unfold f2; rw [ha]; show (fb ρ).bind _ = _; rw [hb]; exact hg
theorem evB (ha : f ρ = .ok (.bl a)) : fB f ρ = .ok a := by unfold fB; rw [ha]; rfl
theorem evBv (ha : c ρ = .ok a) : fBv c ρ = .ok (.bl a) := by unfold fBv; rw [ha]; rfl
theorem evTr (ha : f ρ = .ok x) (ht : trD x = .ok a) : fTr f ρ = .ok a := by unfold fTr; rw [ha]; exact ht
theorem evNot (ha : c ρ = .ok a) : fNot c ρ = .ok (!a) := by unfold fNot; rw [ha]; rfl
theorem evAnd (ha : ca ρ = .ok a) (hb : cb ρ = .ok b) : fAnd ca cb ρ = .ok (a && b) := by unfold fAnd; rw [ha]; cases a <;> first | rfl | exact hb
theorem evOr (ha : ca ρ = .ok a) (hb : cb ρ = .ok b) : fOr ca cb ρ = .ok (a || b) := by unfold fOr; rw [ha]; cases a <;> first | rfl | exact hb
theorem evAndT (ha : ca ρ = .ok true) (hb : cb ρ = .ok b) : fAnd ca cb ρ = .ok b := by unfold fAnd; rw [ha]; exact hb
theorem evOrF (ha : ca ρ = .ok false) (hb : cb ρ = .ok b) : fOr ca cb ρ = .ok b := by unfold fOr; rw [ha]; exact hb
theorem evSc (h : f ρ = .ok x) (hs : isSc x = true) : fSc f ρ = .ok x := by unfold fSc; rw [h]; show (if isSc x = true then _ else _) = _; rw [hs]; rfl
theorem evNx {α : Type} {f : Env → Res α} {x : α} (h : f ρ = .ok x) : fNx f ρ = .ok x := by unfold fNx; rw [h]
theorem evA {fs : Env → Res (List D)} {xs : List D} (ha : fa ρ = .ok x) (hs : fs ρ = .ok xs) : fA fa fs ρ = .ok (x :: xs) := by unfold fA; rw [ha]; show (fs ρ).bind _ = _; rw [hs]; rfl
theorem evOn {fs : Env → Res (List D)} {xs : List D} {g : List D → Res D} (ha : fs ρ = .ok xs) (hg : g xs = .ok z) : fOn g fs ρ = .ok z := by unfold fOn; rw [ha]; exact hg
theorem evL {xs : List D} (ha : f ρ = .ok x) (hx : asL x = .ok xs) : fL f ρ = .ok xs := by unfold fL; rw [ha]; exact hx
variable {α γ : Type} {o : γ → D} {oB : γ → Bool} {ra : Res α} {ea : α → D}
theorem rAnd {rb : Res Bool} (ha : ca ρ = .ok a) (hb : Rf (cb ρ) rb (fun x => x)) : Rf (fAnd ca cb ρ) (if a = true then rb else .ok false) (fun x => x) := by
  unfold fAnd; rw [ha]; cases a with
  | true => exact hb
  | false => exact rfl
theorem rOr {rb : Res Bool} (ha : ca ρ = .ok a) (hb : Rf (cb ρ) rb (fun x => x)) : Rf (fOr ca cb ρ) (if a = true then .ok true else rb) (fun x => x) := by
  unfold fOr; rw [ha]; cases a with
  | true => exact rfl
  | false => exact hb
theorem rAndI {ra rb : Res Bool} (ha : Rf (ca ρ) ra (fun x => x)) (hb : Rf (cb ρ) rb (fun x => x)) : Rf (fAnd ca cb ρ) (ra.bind fun a => if a = true then rb else .ok false) (fun x => x) := b_i ha fun a => by
  cases a with
  | true => exact hb
  | false => exact rfl
theorem rOrI {ra rb : Res Bool} (ha : Rf (ca ρ) ra (fun x => x)) (hb : Rf (cb ρ) rb (fun x => x)) : Rf (fOr ca cb ρ) (ra.bind fun a => if a = true then .ok true else rb) (fun x => x) := b_i ha fun a => by
  cases a with
  | true => exact rfl
  | false => exact hb
theorem rSc (h : Rf (f ρ) ra ea) (hs : ∀ x, isSc (ea x) = true) : Rf (fSc f ρ) (nx ra) ea := by
  cases ra with
  | ok v => exact evSc h (hs v)
  | _ => exact trivial
theorem rNx {α : Type} {β : Type} {f : Env → Res β} {ra : Res α} {ea : α → β} (h : Rf (f ρ) ra ea) : Rf (fNx f ρ) (nx ra) ea := by
  cases ra with
  | ok v => exact evNx h
  | _ => exact trivial
end
def eL {α : Type} (e : α → D) : List α → D := fun xs => .lst (xs.map e)
def eT {α : Type} (e : α → D) : List α → D := fun xs => .tup (xs.map e)
def eF {α : Type} (e : α → D) : List α → D := fun xs => .frl (xs.map e)
def eO {α : Type} (e : α → D) : Option α → D := fun x => match x with
  | none => .non
  | some v => e v
def eN : Unit → D := fun _ => .non
def eP1 {α : Type} (e : α → D) : α → D := fun p => .tup [e p]
def eP2 {α β : Type} (e : α → D) (f : β → D) : α × β → D := fun p => .tup [e p.1, f p.2]
def eP3 {α β γ : Type} (e : α → D) (f : β → D) (g : γ → D) : α × β × γ → D := fun p => .tup [e p.1, f p.2.1, g p.2.2]
def eP4 {α β γ δ : Type} (e : α → D) (f : β → D) (g : γ → D) (h : δ → D) : α × β × γ × δ → D := fun p => .tup [e p.1, f p.2.1, g p.2.2.1, h p.2.2.2]
def eH2 {α β : Type} (e : α → D) (f : β → D) : α × β → D := fun p => .lst [e p.1, f p.2]
def eH3 {α β γ : Type} (e : α → D) (f : β → D) (g : γ → D) : α × β × γ → D := fun p => .lst [e p.1, f p.2.1, g p.2.2]
def eH4 {α β γ δ : Type} (e : α → D) (f : β → D) (g : γ → D) (h : δ → D) : α × β × γ × δ → D := fun p => .lst [e p.1, f p.2.1, g p.2.2.1, h p.2.2.2]
/-- own objects: by their fields' encoders -/
def eOb1 {α : Type} (c : Str) (n1 : Str) (e : α → D) : α → D := fun p => .obj c [n1] [e p]
def eOb2 {α β : Type} (c : Str) (n1 n2 : Str) (e : α → D) (f : β → D) : α × β → D := fun p => .obj c [n1, n2] [e p.1, f p.2]
def eOb3 {α β γ : Type} (c : Str) (n1 n2 n3 : Str) (e : α → D) (f : β → D) (g : γ → D) : α × β × γ → D := fun p => .obj c [n1, n2, n3] [e p.1, f p.2.1, g p.2.2]
def eOb4 {α β γ δ : Type} (c : Str) (n1 n2 n3 n4 : Str) (e : α → D) (f : β → D) (g : γ → D) (h : δ → D) : α × β × γ × δ → D := fun p => .obj c [n1, n2, n3, n4] [e p.1, f p.2.1, g p.2.2.1, h p.2.2.2]
def mulR (i j : Int) : Res Int := if mulOk i j = true then .ok (i * j) else .er
def divR (i j : Int) : Res Int := if 0 < j ∧ j.natAbs.log2 < 9000 then .ok (i / j) else if j < 0 ∧ j.natAbs.log2 < 9000 then .ok (-i / -j) else .er
def modR (i j : Int) : Res Int := if 0 < j then .ok (i % j) else .er
def powR (i j : Int) : Res Int := if powOk i j = true then .ok (i ^ j.toNat) else .er
def ixR {α : Type} (xs : List α) (i : Int) : Res α := match atI xs i with
  | some x => .ok x
  | none => .er
def catR {α : Type} (xs ys : List α) : Res (List α) := if szOk (xs.length + ys.length) = true then .ok (xs ++ ys) else .er
def appR {α : Type} (xs : List α) (x : α) : Res (List α) := if szOk (xs.length + 1) = true then .ok (xs ++ [x]) else .er
def repR {α : Type} (xs : List α) (k : Int) : Res (List α) := if repOk xs.length k = true then .ok (List.replicate k.toNat xs).flatten else .er
def setR {α : Type} (xs : List α) (i : Int) (x : α) : Res (List α) := match ixN xs.length i with
  | some k => .ok (xs.set k x)
  | none => .er
def popR {α : Type} (xs : List α) (i : Int) : Res (α × List α) := match ixN xs.length i with
  | some k => (match xs[k]? with
    | some y => if szOk xs.length = true then .ok (y, xs.eraseIdx k) else .er
    | none => .er)
  | none => .er
def pop0R {α : Type} (xs : List α) : Res (α × List α) := match xs[xs.length - 1]? with
  | some y => .ok (y, xs.dropLast)
  | none => .er
def app2R {α : Type} (xs : List (List α)) (i : Int) (x : α) : Res (List (List α)) := match ixN xs.length i with
  | some k => (match xs[k]? with
    | some us => if szOk (us.length + 1) = true then .ok (xs.set k (us ++ [x])) else .er
    | none => .er)
  | none => .er
def rngI (lo : Int) (n : Nat) : List Int := (List.range n).map fun (i : Nat) => lo + (i : Int)
def rngR (j : Int) : Res (List Int) := if rngOk 0 j = true then .ok (rngI 0 j.toNat) else .er
def rng2R (i j : Int) : Res (List Int) := if rngOk i j = true then .ok (rngI i (j - i).toNat) else .er
def enumI {α : Type} (i : Nat) : List α → List (Int × α)
  | [] => []
  | x :: xs => ((i : Int), x) :: enumI (i + 1) xs
/-- comprehensions -/
def lcR {α β : Type} (xs : List α) (c : α → Res Bool) (f : α → Res β) : Res (List β) := if szOk xs.length = true then go xs else .er
where go : List α → Res (List β)
  | [] => .ok []
  | x :: xs => (nx (c x)).bind fun b => if b = true then (nx (f x)).bind fun y => (go xs).bind fun ys => .ok (y :: ys) else go xs
def lc2R {α β γ : Type} (xs : List α) (c : α → Res Bool) (i1 : α → Res (List β)) (c1 : α → β → Res Bool) (f : α → β → Res γ) : Res (List γ) := (go xs).bind fun ys => if szOk ys.length = true then .ok ys else .er
where go : List α → Res (List γ)
  | [] => .ok []
  | x :: xs => (nx (c x)).bind fun b => if b = true then (nx (i1 x)).bind fun ys => (lcR.go (c1 x) (f x) ys).bind fun zs => (go xs).bind fun ws => .ok (zs ++ ws) else go xs
/-- loops -/
inductive Ctl (σ β : Type) where
  | go (s : σ) | out (s : σ) | ret (b : β)
def forR {α σ : Type} (f : σ → α → Res σ) : List α → σ → Res σ
  | [], s => .ok s
  | x :: xs, s => (f s x).bind fun s => forR f xs s
/-- with breaks and returns -/
def forC {α σ β : Type} (f : σ → α → Res (Ctl σ β)) : List α → σ → Res (Ctl σ β)
  | [], s => .ok (.go s)
  | x :: xs, s => (f s x).bind fun o => match o with
    | .go s => forC f xs s
    | .out s => .ok (.go s)
    | .ret b => .ok (.ret b)
def whileC {σ β : Type} (c : σ → Res Bool) (f : σ → Res (Ctl σ β)) : Nat → σ → Res (Ctl σ β)
  | 0, _ => .er
  | n + 1, s => (c s).bind fun b => if b = true then (f s).bind fun o => (match o with
    | .go s => whileC c f n s
    | .out s => .ok (.go s)
    | .ret b => .ok (.ret b)) else .ok (.go s)
/-- a loop's end without a return -/
def ctlS {σ β : Type} (o : Ctl σ β) : Res σ := match o with
  | .go s => .ok s
  | .out s => .ok s
  | .ret _ => .er
structure Fin {δ : Type} (K : Res Fl → Res δ) : Prop where
  xc : ∀ c fs ρ, K (.ok (.xc c fs ρ)) = .ex c fs
/-- the slots vs forgotten -/
def fgt (vs : List Nat) (m : Res Fl) : Res Fl := match m with
  | .ok (.nx ρ) => .ok (.nx (wipeD ρ vs))
  | .ok (.bk ρ) => .ok (.bk (wipeD ρ vs))
  | .ok (.ct ρ) => .ok (.ct (wipeD ρ vs))
  | m => m
def fFgt (vs : List Nat) (F : FS) : FS := fun ρ => fgt vs (F ρ)
def finS (vs : List Nat) (m : Res Fl) : Res Fl := match m with
  | .ok (.nx ρ) => .ok (.nx (wipeD ρ vs))
  | .ok (.xc c fs _) => .ex c fs
  | _ => .er
def finL (vs : List Nat) (m : Res Fl) : Res Fl := match m with
  | .ok (.nx ρ) => .ok (.nx (wipeD ρ vs))
  | .ok (.ct ρ) => .ok (.nx (wipeD ρ vs))
  | .ok (.bk ρ) => .ok (.bk (wipeD ρ vs))
  | .ok (.rt d) => .ok (.rt d)
  | .ok (.xc c fs _) => .ex c fs
  | _ => .er
def finF (md : Md) (m : Res Fl) : Res D := match m with
  | .ok (.rt d) => .ok d
  | .ok (.nx _) => if md = .sh then .ok .non else .er
  | .ok (.xc c fs _) => .ex c fs
  | _ => .er
def finI (m : Res Fl) : Res D := match m with
  | .ok (.nx ρ) => (match ρ[0]? with
    | some (some d) => .ok d
    | _ => .er)
  | .ok (.xc c fs _) => .ex c fs
  | _ => .er
theorem fin_S {vs : List Nat} : Fin (finS vs) := ⟨fun _ _ _ => rfl⟩
theorem fin_L {vs : List Nat} : Fin (finL vs) := ⟨fun _ _ _ => rfl⟩
theorem fin_F {md : Md} : Fin (finF md) := ⟨fun _ _ _ => rfl⟩
theorem fin_I : Fin finI := ⟨fun _ _ _ => rfl⟩
section
variable {α β γ δ σ : Type} {K : Res Fl → Res δ} {F G A B C : FS} {ρ ρ' : Env} {N N1 N2 : Res γ} {o : γ → δ} {r : Res α} {E : α → Env} {k : α → Res γ} {c : Env → Res Bool} {b : Bool} {f : Env → Res D} {e : α → D} {v : α} {d : D} {i : Nat}
theorem n_runF {n : Nat} {md : Md} {ds : List D} {e : γ → D} (h : Rf (finF md (F (startE n ds))) N e) : Rf (runF n md F ds) N e := h
theorem n_runI {n : Nat} {cn : Str} {ds : List D} {e : γ → D} (h : Rf (finI (F (some (.obj cn [] []) :: (ds.map some ++ List.replicate (n - 1 - ds.length) none)))) N e) : Rf (runI n cn F ds) N e := h
theorem finS_nx {vs : List Nat} {m : Res Fl} {ρ : Env} (h : finS vs m = .ok (.nx ρ)) : ∃ ρ1, m = .ok (.nx ρ1) ∧ wipeD ρ1 vs = ρ := by
  unfold finS at h
  split at h
  · cases h; exact ⟨_, rfl, rfl⟩
  · cases h
  · cases h
theorem finS_ex {vs : List Nat} {m : Res Fl} {c : Str} {fs : List (Str × D)} (h : finS vs m = .ex c fs) : ∃ ρ1, m = .ok (.xc c fs ρ1) := by
  unfold finS at h
  split at h
  · cases h
  · cases h; exact ⟨_, rfl⟩
  · cases h
theorem t_seq (hK : Fin K) (E : α → Env) (h : Rf (finS [] (F ρ)) r (fun s => .nx (E s))) (hk : ∀ s, Rf (K (G (E s))) (k s) o) : Rf (K (fSeq F G ρ)) (r.bind k) o := by
  cases r with
  | ok s =>
    obtain ⟨ρ1, e1, e2⟩ := finS_nx h
    have e2 : ρ1 = E s := e2
    subst e2
    rw [fSeq_nx e1]
    exact hk s
  | ex c fs =>
    obtain ⟨ρ1, e1⟩ := finS_ex h
    have : fSeq F G ρ = .ok (.xc c fs ρ1) := by unfold fSeq; rw [e1]
    rw [this, hK.xc]
    exact rfl
  | er => exact trivial
theorem t_seqp (ρ' : Env) (h : F ρ = .ok (.nx ρ')) (hk : Rf (K (G ρ')) N o) : Rf (K (fSeq F G ρ)) N o := by rw [fSeq_nx h]; exact hk
theorem t_end (h : Rf (K (fSeq F fNext ρ)) N o) : Rf (K (F ρ)) N o := by
  have : fSeq F fNext ρ = F ρ := by
    unfold fSeq
    split
    · rename_i e; rw [e]; rfl
    · rfl
  rw [this] at h
  exact h
theorem t_assoc (h : Rf (K (fSeq A (fSeq B C) ρ)) N o) : Rf (K (fSeq (fSeq A B) C ρ)) N o := by
  have : fSeq A (fSeq B C) ρ = fSeq (fSeq A B) C ρ := by
    show andThen (A ρ) (fSeq B C) = andThen (andThen (A ρ) B) C
    cases A ρ with
    | ok x => cases x <;> rfl
    | _ => rfl
  rw [this] at h
  exact h
theorem t_nextS (h : Rf (K (G ρ)) N o) : Rf (K (fSeq fNext G ρ)) N o := h
theorem t_next {v : γ} (h : K (.ok (.nx ρ)) = .ok (o v)) : Rf (K (fNext ρ)) (.ok v) o := h
theorem t_brk {v : γ} (h : K (.ok (.bk ρ)) = .ok (o v)) : Rf (K (fSeq fBrk G ρ)) (.ok v) o := h
theorem t_retp {v : γ} {d : D} (hf : f ρ = .ok d) (h : K (.ok (.rt d)) = .ok (o v)) : Rf (K (fSeq (fRet f) G ρ)) (.ok v) o := by
  show K (fSeq (fRet f) G ρ) = _
  have : fSeq (fRet f) G ρ = .ok (.rt d) := by unfold fSeq fRet; rw [hf]; rfl
  rw [this, h]
/-- at a def's level -/
theorem t_retF {md : Md} {e : γ → D} (hf : Rf (f ρ) N e) : Rf (finF md (fSeq (fRet f) G ρ)) N e := by
  cases N with
  | ok v => exact t_retp hf rfl
  | ex c fs =>
    have : fSeq (fRet f) G ρ = .ok (.xc c fs ρ) := by unfold fSeq fRet; rw [show f ρ = _ from hf]; rfl
    rw [this]
    exact rfl
  | er => exact trivial
theorem lift_p {α : Type} {r : Res α} {a : α} {k : α → Res Fl} (h : r = .ok a) : lift r ρ k = k a := by rw [h]; rfl
theorem t_if (hc : c ρ = .ok b) (h1 : Rf (K (fSeq A G ρ)) N1 o) (h2 : Rf (K (fSeq B G ρ)) N2 o) : Rf (K (fSeq (fIfS c A B) G ρ)) (if b = true then N1 else N2) o := by
  have : fSeq (fIfS c A B) G ρ = if b = true then fSeq A G ρ else fSeq B G ρ := by
    show andThen (lift (c ρ) ρ _) G = _
    rw [lift_p hc]
    cases b <;> rfl
  rw [this]
  cases b with
  | true => exact h1
  | false => exact h2
theorem t_ifT (hc : c ρ = .ok true) (h1 : Rf (K (fSeq A G ρ)) N o) : Rf (K (fSeq (fIfS c A B) G ρ)) N o := t_if (N2 := .er) hc h1 trivial
theorem t_ifF (hc : c ρ = .ok false) (h1 : Rf (K (fSeq B G ρ)) N o) : Rf (K (fSeq (fIfS c A B) G ρ)) N o := t_if (N1 := .er) hc trivial h1
theorem t_ifI (hK : Fin K) {rc : Res Bool} (hc : Rf (c ρ) rc (fun x => x)) (h1 : Rf (K (fSeq A G ρ)) N1 o) (h2 : Rf (K (fSeq B G ρ)) N2 o) : Rf (K (fSeq (fIfS c A B) G ρ)) (rc.bind fun b => if b = true then N1 else N2) o := by
  cases rc with
  | ok b => exact t_if hc h1 h2
  | ex cn fs =>
    have : fSeq (fIfS c A B) G ρ = .ok (.xc cn fs ρ) := by
      show andThen (lift (c ρ) ρ _) G = _
      rw [show c ρ = _ from hc]
      rfl
    rw [this, hK.xc]
    exact rfl
  | er => exact trivial
/-- single statements -/
theorem s_if {vs : List Nat} (hF : Rf (finS vs (fSeq F fNext ρ)) N1 o') : Rf (finS [] (fFgt vs F ρ)) N1 o' := by
  have h := t_end hF
  have : finS [] (fFgt vs F ρ) = finS vs (F ρ) := by
    unfold fFgt fgt finS
    cases F ρ with
    | ok x => cases x <;> rfl
    | _ => rfl
  rw [this]
  exact h
theorem s_setp (E : α → Env) (hf : f ρ = .ok (e v)) (hE : ρ.set i (some (e v)) = E v) : Rf (finS [] (fSet i f ρ)) (.ok v) (fun s => .nx (E s)) := by
  show finS [] (lift (f ρ) ρ _) = _
  rw [lift_p hf]
  show Res.ok (Fl.nx (ρ.set i (some (e v)))) = Res.ok (Fl.nx (E v))
  rw [hE]
theorem s_set (E : α → Env) (hf : Rf (f ρ) r e) (hE : ∀ v, ρ.set i (some (e v)) = E v) : Rf (finS [] (fSet i f ρ)) r (fun s => .nx (E s)) := by
  cases r with
  | ok v => exact s_setp E hf (hE v)
  | ex c fs =>
    show finS [] (lift (f ρ) ρ _) = _
    rw [show f ρ = _ from hf]
    rfl
  | er => exact trivial
end
end Da
namespace Da
open PySem PySem.Spec L2
theorem wipe_some {ρ : Env} {i : Nat} {d : D} : ∀ {vs : List Nat}, (wipeD ρ vs)[i]? = some (some d) → ρ[i]? = some (some d)
  | [], h => h
  | v :: vs, h => by
    unfold wipeD at h
    rw [List.getElem?_set] at h
    split at h
    · split at h <;> cases h
    · exact wipe_some h
theorem wipe_len {ρ : Env} : ∀ {vs : List Nat}, (wipeD ρ vs).length = ρ.length
  | [] => rfl
  | v :: vs => by unfold wipeD; rw [List.length_set, wipe_len]
section
variable {K : PySem.W.Frag} {mg : Str → Option Value} {m : Mds} {S0 H0 H : Hp} {σ : L2.St} {ρ : Env} {vs : List Nat}
theorem StM.wipe (h : StM K mg m S0 H0 σ ρ H) : StM K mg m S0 H0 σ (wipeD ρ vs) H := by
  obtain ⟨S, F, h1, h2, h3⟩ := h
  exact ⟨S, F, h1, ⟨by rw [wipe_len]; exact h2.len, fun i d e => h2.at_ i d (wipe_some e), fun i d e => h2.nd i d (wipe_some e), fun i j d e n a b => h2.apart i j d e n (wipe_some a) (wipe_some b)⟩, fun i d e => h3 i d (wipe_some e)⟩
theorem spost_fgt {E : WX} {L : Lp} {m' : Mds} {o : Res Fl} {Dn : Ends} (h : SPost K mg E L S0 H0 m' (fgt vs o) Dn) : SPost K mg E L S0 H0 m' o Dn := by
  cases o with
  | ok o =>
    cases o with
    | nx ρ => exact fun σ H s => h σ H s.wipe
    | bk ρ => exact fun σ H s => h σ H s.wipe
    | ct ρ => exact fun σ H s => h σ H s.wipe
    | rt d => exact h
    | xc c fs ρ => exact h
  | ex c fs => exact h
  | er => exact h
end
section
variable {X : Cx} {E : WX} {L : Lp} {m m' : Mds} {st : Stmt} {sts : List Stmt} {F : FS}
theorem js_fgt (vs : List Nat) (h : JS X E L m m' st F) : JS X E L m m' st (fFgt vs F) :=
  ⟨PSimp h.ps fun D σ H q => by
    obtain ⟨S0, H0, ρ, a, b⟩ := q
    exact ⟨S0, H0, ρ, a, spost_fgt b⟩⟩
theorem jss_fgt (vs : List Nat) (h : JSs X E L m m' sts F) : JSs X E L m m' sts (fFgt vs F) :=
  ⟨PSsimp h.ps fun D σ H q => by
    obtain ⟨S0, H0, ρ, a, b⟩ := q
    exact ⟨S0, H0, ρ, a, spost_fgt b⟩⟩
end
end Da
namespace Da
open PySem PySem.Spec L2
/-- raise c(..): the fields stand in the reverse of their order -/
def fRaise (c : Str) (ns : List Str) (fs : Env → Res (List D)) : FS := fun ρ => lift (fs ρ) ρ fun ds => if ds.length = ns.length then .ok (.xc c (ns.zip ds).reverse ρ) else .er
def tInit (K : PySem.W.Frag) : List (Str × Nat) → TS
  | [] => tNext
  | q :: r => tSeq (tOst K q.1 (tVar 0) (tVar q.2)) (tInit K r)
/-- the error at a, with the fields acc stored so far -/
def Made (a C : Addr) (H0 : Hp) (acc : List (Str × V)) (H : Hp) : Prop := (acc = [] ∧ H = H0 ∧ H0 a = some (exo a C none)) ∨ ∃ d, H0 d = none ∧ d ≠ a ∧ H = upd (upd H0 d (exd d acc)) a (exo a C (some d))
theorem upd_twice {H : Hp} {a : Addr} {o u : HO} : upd (upd H a o) a u = upd H a u := by
  funext b
  by_cases h : b = a
  · rw [h, upd_same, upd_same]
  · rw [upd_ne h, upd_ne h, upd_ne h]
theorem upd_swap {H : Hp} {a b : Addr} {o u : HO} (h : a ≠ b) : upd (upd H a o) b u = upd (upd H b u) a o := by
  funext x
  by_cases hb : x = b
  · subst hb
    rw [upd_same, upd_ne (fun z => h z.symm), upd_same]
  · rw [upd_ne hb]
    by_cases ha : x = a
    · subst ha; rw [upd_same, upd_same]
    · rw [upd_ne ha, upd_ne ha, upd_ne hb]
theorem init_run {K : PySem.W.Frag} {a C : Addr} {σ : L2.St} {D : Ends} {H0 : Hp} (T : OexC K C) (hσ : σ[0]? = some (some (.ref a))) : ∀ (fj : List (Str × Nat)) (ys : List V) (acc : List (Str × V)) (H : Hp), fj.length = ys.length →
    (∀ (k : Nat) (q : Str × Nat) (y : V), fj[k]? = some q → ys[k]? = some y → σ[q.2]? = some (some y)) → (∀ q ∈ fj, PySem.W.findIn K (.ref C) q.1 = some none) → acc.length + fj.length ≤ 900 → Made a C H0 acc H →
    (∀ H', Made a C H0 (((fj.map (·.1)).zip ys).reverse ++ acc) H' → D.nx σ H') → tInit K fj D σ H
  | [], ys, acc, H, hl, hy, hn, hz, hm, k => k H hm
  | q :: r, [], acc, H, hl, hy, hn, hz, hm, k => by cases hl
  | q :: r, y :: ys, acc, H, hl, hy, hn, hz, hm, k => by
    have go : ∀ H', Made a C H0 ((q.1, y) :: acc) H' → tInit K r D σ H' := fun H' m' => by
      refine init_run T hσ r ys _ H' (by simpa using hl) (fun k' q' y' a b => hy (k' + 1) q' y' (by simpa using a) (by simpa using b)) (fun q' h' => hn q' (List.mem_cons_of_mem _ h')) (by simp at hz ⊢; omega) m' fun H2 m2 => k H2 ?_
      simpa using m2
    refine ⟨y, hy 0 q y rfl rfl, .ref a, hσ, a, C, rfl, T, hn q List.mem_cons_self, ?_⟩
    rcases hm with ⟨e1, e2, e3⟩ | ⟨d, e1, e2, e3⟩
    · subst e1; subst e2
      exact .inl ⟨e3, fun dx hd hne => go _ (.inr ⟨dx, hd, hne, rfl⟩)⟩
    · subst e3
      refine .inr ⟨d, acc, upd_same, by rw [upd_ne e2]; exact upd_same, by simp at hz; omega, go _ (.inr ⟨d, e1, e2, ?_⟩)⟩
      rw [upd_swap (fun z => e2 z.symm), upd_twice]
/-- what such an __init__ promises -/
def spX (K : PySem.W.Frag) (C : Addr) (ns : List Str) : Sp := fun vs H Q _ => ∃ a us, vs = .ref a :: us ∧ us.length = ns.length ∧ H a = some (exo a C none) ∧ ∀ d, H d = none → d ≠ a → Q .non (upd (upd H d (exd d (ns.zip us).reverse)) a (exo a C (some d)))
/-- an own error class with such an __init__ -/
def ErrN (P : Program) (w : World) (K : PySem.W.Frag) (mg : Str → Option Value) (base : Heap) (x : Str) (k : Nat) (ns : List Str) : Prop := ∃ C fI fd ps, mg x = some (.ref C) ∧ OexC K C ∧
  PySem.W.findIn K (.ref C) "__init__" = some (some (.ref fI)) ∧ PySem.W.typeIn K (.ref fI) = some (.type "function") ∧ Binds K fd ps [] ∧ FnOk P w K mg base (L2.CX P w) k fI fd ps (spX K C ns)
def ErrAt (K : PySem.W.Frag) (mg : Str → Option Value) (x qual : Str) (st : Stmt) (ps ns : List Str) : Prop := ∃ C fI fd, mg x = some (.ref C) ∧ OexC K C ∧
  PySem.W.findIn K (.ref C) "__init__" = some (some (.ref fI)) ∧ PySem.W.typeIn K (.ref fI) = some (.type "function") ∧ Fun K "__init__" qual st fI fd ∧ Binds K fd ps [] ∧ ∀ f ∈ ns, PySem.W.findIn K (.ref C) f = some none
section
variable {P : Program} {w : World} {K : PySem.W.Frag} {mg : Str → Option Value} {base h : Heap} {x qual : Str} {st : Stmt} {ps ns N : List Str} {k : Nat}
theorem errN_of {fj : List (Str × Nat)} (dA : ErrAt K mg x qual st ps ns) (Sc : FnScope N ps (defScope st)) (hns : fj.map (·.1) = ns) (hj : fj.map (·.2) = (List.range ns.length).map (· + 1)) (hps : ps.length = ns.length + 1) (hN : N.length = ps.length) (h0 : ns ≠ []) (hz : ns.length ≤ 900)
    (h : ∀ (f : Addr) (cdv : Value) (A : Around) (outer : List PySem.Env) (s : Shared) (H : Hp) (E : XK), PSs (cxOf (L2.CX P w) P w K mg base N qual (defScope st) f cdv A outer s H E) (defBody st) (tInit K fj)) : ErrN P w K mg base x (k + 1) ns := by
  obtain ⟨C, fI, fd, hC, T, i1, i2, Fn, bd, hf⟩ := dA
  refine ⟨C, fI, fd, ps, hC, T, i1, i2, bd, Fn.okX Sc (fun vs H Q E hsp => ?_) (fun cdv A outer s H vs Q E hr hsp => ⟨_, h fI cdv A outer s H E, ?_⟩)⟩
  · obtain ⟨a, us, rfl, e, _⟩ := hsp
    rw [List.length_cons, e, hps]
  · obtain ⟨a, us, rfl, e, ea, q⟩ := hsp
    have hfl : fj.length = ns.length := by rw [← hns, List.length_map]
    have hst : L2.start N (.ref a :: us) = (V.ref a :: us).map some := by
      unfold L2.start
      rw [show N.length - (V.ref a :: us).length = 0 from by rw [hN, hps, List.length_cons, e]; omega]
      simp
    refine init_run T (by rw [hst]; rfl) fj us [] H (by rw [hfl, e]) (fun k' q' y a1 a2 => ?_) (fun q' hq => hf _ (by rw [← hns]; exact List.mem_map_of_mem hq)) (by rw [hfl]; simpa using hz) (.inl ⟨rfl, rfl, ea⟩) fun H' m' => ?_
    · have : (fj.map (·.2))[k']? = some q'.2 := by rw [List.getElem?_map, a1]; rfl
      rw [hj, List.getElem?_map] at this
      have hk : k' < ns.length := by rw [← hfl]; exact (List.getElem?_eq_some_iff.mp a1).1
      rw [List.getElem?_range hk] at this
      have e2 : k' + 1 = q'.2 := by simpa using this
      rw [← e2, hst, List.getElem?_map, List.getElem?_cons_succ, a2]
      rfl
    · rw [List.append_nil] at m'
      rcases m' with ⟨z, _, _⟩ | ⟨d, e1, e2, e3⟩
      · exfalso
        have := congrArg List.length z
        rw [List.length_reverse, List.length_zip, List.length_map, hfl, e, Nat.min_self, List.length_nil] at this
        exact h0 (List.length_eq_zero_iff.mp this)
      · rw [e3, hns]
        exact q d e1 e2
theorem errAt_mk {C f : Addr} {oc : Value} {od an : Option Addr} {osl : Array (Option Value)} {kV doc pm cdv ct : Value} {nm q : Str} {Nx : Addr} {bs bm : List Value} {sn sub ab col : _} {dd : _} {k0 k1 k2 k3 k5 : _} (X : K.In h) (G : h.Ns mainGlobals mg) (a : PySem.W.nsIn K mainGlobals x = some (some (.ref C)))
    (e1 : K.lookup C = some (excClassObj nm q C Nx bs bm true sn sub ab col dd k0 k1 k2 k3 k5 "ValueError.__new__")) (e2 : PySem.HandSPX.refsVE bm = true) (e3 : PySem.W.findIn K (.ref C) "__setattr__" = some (some (.builtin "object.__setattr__"))) (e4 : PySem.W.subIn K (.ref C) (.type "BaseException") = some true)
    (e5 : PySem.W.typeIn K (.ref C) = some (.type "type")) (e6 : PySem.W.keepIn K (.ref C) = true) (m2 : PySem.W.findIn K (.ref C) "__init__" = some (some (.ref f))) (m3 : PySem.W.typeIn K (.ref f) = some (.type "function"))
    (l : K.lookup f = some ⟨oc, od, .func (PySem.W.fnOf "__init__" qual (defArgs st) (defBody st) (defScope st) .none kV doc pm an cdv ct), osl⟩) (cd : PySem.W.codeIn K cdv qual = true) (kf : PySem.W.keepIn K (.ref f) = true)
    (hb : ∀ (kV doc pm : Value) (an : Option Addr) (cdv ct : Value) (us : List Value), us.length = ps.length → bindArgs (PySem.W.fnOf "__init__" qual (defArgs st) (defBody st) (defScope st) .none kV doc pm an cdv ct) ⟨us, []⟩ = pure (ps.zip us))
    (hf : ∀ g ∈ ns, PySem.W.findIn K (.ref C) g = some none) : ErrAt K mg x qual st ps ns := by
  have Fn := fun_mk (st := st) l cd kf
  exact ⟨C, f, _, PySem.W.mg_of X G a, ⟨⟨_, _, _, _, _, _, _, _, _, _, _, _, _, _, _, e1, e2⟩, e3, e4, e5, e6⟩, m2, m3, Fn, Fn.binds hb, hf⟩
end
theorem RepL.rev {K : PySem.W.Frag} {mg : Str → Option Value} {S : Hp} {vs : List V} {ds : List D} (r : RepL K mg S vs ds) : RepL K mg S vs.reverse ds.reverse := by
  refine ⟨by rw [List.length_reverse, List.length_reverse, r.len], fun i v d a b => ?_⟩
  have hi : i < vs.length := by simpa using (List.getElem?_eq_some_iff.mp a).1
  rw [List.getElem?_reverse hi] at a
  rw [List.getElem?_reverse (by rw [← r.len]; exact hi), ← r.len] at b
  exact r.at_ _ v d a b
section
variable {X : Cx} {E : WX} {L : Lp} {m m' : Mds} {c : Str} {ns : List Str} {k : Nat} {p pos p1 : Pos} {e : Expr} {es : List Expr} {fs : Env → Res (List D)}
theorem js_raiseN (T : ErrN X.prog X.w X.K X.mg X.base c k ns) (hr : Room (k + 1) X.A) (tk : Takes X E) (ha : JA X E m (e :: es) fs) (hz : ns.length ≤ 900 := by decide) (hc : X.calm = true := by rfl) (hg : Gl X c := by rfl) (hdb : (c == ("__debug__" : Str)) = false := by decide)
    (he : starEach (e :: es) X.env = (false, eval e X.env) :: starEach es X.env := by rfl) (hpl : (backTo p1 (starEach es X.env)).any (·.1) = false := by rfl) :
    JS X E L m m' (.Raise (some (.Call (.Name c p) (e :: es) [] p1)) none pos) (fRaise c ns fs) := by
  obtain ⟨C, fI, fd, ps, gC, oC, i1, i2, bd, G⟩ := T
  have hx : Passes (L2.CX X.prog X.w) X (fun _ _ _ => False) := fun _ _ _ _ _ _ _ z => by
    obtain ⟨_, _, _, _, _, _, _, _, _, _, _, _, hE⟩ := z
    exact hE.elim
  refine ⟨PSimp (ps_raise hc tk (pmk_oex oC i1 i2 G hr bd .nil hx hg gC ha.pa hdb he hpl)) fun D σ H h => ?_⟩
  obtain ⟨S0, H0, ρ, ⟨S, Fp, st⟩, q⟩ := h
  refine ⟨S, ρ, st.envM, (lift_post st q).imp fun ds S1 H1 s1 q1 vs rs => ?_⟩
  split at q1
  · rename_i hl
    refine ⟨by rw [rs.len, hl]; exact Nat.le_trans hz (by decide), fun a na => ⟨a, vs, by rw [List.append_nil], by rw [rs.len, hl], upd_same, fun d nd hne => ?_⟩⟩
    have nd1 : H1 d = none := by rw [upd_ne hne] at nd; exact nd
    refine ⟨rfl, d, (ns.zip vs).reverse, upd_same, by rw [upd_ne hne]; exact upd_same, nd1, ?_⟩
    have eh : upd (del (upd (upd (upd H1 a (exo a C none)) d (exd d (ns.zip vs).reverse)) a (exo a C (some d))) a) d (.xd (ns.zip vs).reverse) = upd H1 d (.xd (ns.zip vs).reverse) := by
      funext b
      by_cases hb : b = d
      · rw [hb, upd_same, upd_same]
      · rw [upd_ne hb, upd_ne hb]
        by_cases hb2 : b = a
        · rw [hb2, del_same, na]
        · rw [del_ne hb2, upd_ne hb2, upd_ne hb, upd_ne hb2]
    rw [eh]
    have s2 := Step.laid (o := .xd (ns.zip vs).reverse) s1.sub nd1
    obtain ⟨S3, F3, st3, ss⟩ := ((st.step s1).step s2).weak (Weak.nil m)
    refine q1 σ S3 F3 _ _ (some d) st3 ⟨gC, .inr ⟨d, (ns.zip vs).reverse, rfl, ss _ _ upd_same, ?_, ?_⟩⟩
    · rw [List.map_reverse, List.map_reverse, List.map_fst_zip (by rw [rs.len, hl]; exact Nat.le_refl _), List.map_fst_zip (by rw [hl]; exact Nat.le_refl _)]
    · rw [List.map_reverse, List.map_reverse, List.map_snd_zip (by rw [rs.len, hl]; exact Nat.le_refl _), List.map_snd_zip (by rw [hl]; exact Nat.le_refl _)]
      exact (rs.mono (s2.ss.trans ss)).rev
  · exact q1.elim
end
end Da
namespace Da
open PySem PySem.Spec L2
/-- of the classes in l it is known whether a clause, an isinstance takes them -/
def askOf (l : List (Str × Bool)) (c : Str) : Option Bool := l.lookup c
/-- an error class whose errors may be asked -/
def ErrC (K : PySem.W.Frag) (mg : Str → Option Value) (c : Str) : Prop := ∃ C, mg c = some (.ref C) ∧ ExcC K C
theorem errF {K : PySem.W.Frag} {C : Addr} {f : Str} {fs : List Str} (h : PySem.W.findIn K (.ref C) f = some none) (t : ∀ g ∈ fs, PySem.W.findIn K (.ref C) g = some none) : ∀ g ∈ f :: fs, PySem.W.findIn K (.ref C) g = some none := fun g hg => by
  rcases List.mem_cons.mp hg with rfl | z
  · exact h
  · exact t g z
def ErrsC (K : PySem.W.Frag) (mg : Str → Option Value) (cs : List Str) : Prop := ∀ c ∈ cs, ErrC K mg c
section
variable {X : Cx} {E : WX} {m : Mds} {l : List (Str × Bool)} {a : Addr} {oe : Obj} {cls : Value} {d : Option Addr} {pn : List (Addr × Obj)} {n y : Str} {p p1 p2 pos : Pos} {cs : List Str}
theorem ErrsC.of (h : ErrsC X.K X.mg cs) (e : l.all (fun q => cs.contains q.1) = true) : ∀ q ∈ l, ErrC X.K X.mg q.1 := fun q hq => h _ (by
  have := List.all_eq_true.mp e q hq
  simpa using this)
end
end Da
namespace Da
open PySem PySem.Spec L2
section
variable {X : Cx} {pins : List (Addr × Obj)} {σ : L2.St} {H : Hp} {s : Shared} {E : Value → Shared → Prop}
/-- set.add of a tuple of ints -/
theorem addT_ok {D t : Addr} {ls : List (Addr × List Int)} {k : List Int} {Q : Value → Shared → Prop} (hu : X.A.units + 64 < cLine) (I : Inv X pins σ H s) (hD : H D = some (SetTO X.prog X.w D ls))
    (hL : ∀ p ∈ ls, SqT X.K H p.1 (p.2.map V.int)) (ht : SqT X.K H t (k.map V.int)) (room : ls.length + 1 < 64)
    (h : ∀ s' ls', Inv X pins σ (upd H D (SetTO X.prog X.w D ls')) s' → (k ∈ ls.map (·.2) → ls' = ls) → (k ∉ ls.map (·.2) → ls'.Perm ((t, k) :: ls)) → Q .none s') :
    wpAny (model X.prog X.w) X.A (call (.builtin "set.add") [.ref D, .ref t]) Q E s := by
  have R0 : SetT0 X.prog X.w s.heap D ls := (I.hok D _ hD).1
  obtain ⟨es, ep, tb, R⟩ := R0.full fun p hp => I.isT (hL p hp)
  have hx := I.isT ht
  obtain ⟨ob, hob, hex, hdt⟩ := R.ob
  have hu1 : X.A.in1.units < cLine := by show X.A.units + 1 < cLine; omega
  refine wpAny_call_entry F.slot_set_add ⟨ob, hob, hex.1⟩ F.entry_set_add ?_ (F.args_set_add_2 _ _)
  unfold Builtin.«set.add» Builtin.Frozenset.oneOther
  simp only [List.isEmpty_nil, bind_assoc]
  unfold Builtin.Frozenset.addrOf setAdd
  refine wpAny_bind (wpAny_pure ?_)
  try dsimp only
  refine wpAny_bind (wpAny_pure ?_)
  try dsimp only
  refine wpAny_bind ?_
  refine wpAny_holding ?_
  refine wpAny_bind (wpAny_pyHash_tuple hu1 hx ?_)
  refine add_at (A := X.A.in1) (s := { s with toks := s.toks + (k.length + 1) }) R hx hu1 room fun b h' ls' es' ep' tb' sb R' c1 c2 => ?_
  have J : Inv X pins σ (upd H D (SetTO X.prog X.w D ls')) { s with heap := h', toks := s.toks + (k.length + 1) } := by
    obtain ⟨ob', hob', _⟩ := R'.ob
    exact I.write (e := D) (t' := s.toks + (k.length + 1)) (by rw [hD]; trivial) (.inl rfl) (fun b u hb hu => (sb.2 b hb).trans hu) ⟨ob', hob'⟩ (setTO_new R'.t0)
  show wpAny _ _ (ret Value.none) _ _ _
  exact wpAny_pure ⟨_, rfl, h _ ls' J c1 c2⟩
end
section
variable {X : Cx}
/-- {elt for target in iter if ..}: D the new set, its members rows of ints -/
def tSet (K : PySem.W.Frag) (P : Program) (w : World) (wi : TI) (g : TG) (tt : TT) (te : TE) (vs : List Nat) : TE := fun σ H Q => wi σ H fun J H1 => ∀ D, H1 D = none →
  ∃ W : Nat → Nat → Hp → Prop, (∃ m, W 0 m (upd H1 D (SetTO P w D []))) ∧ ∀ i m H, W i m H → (J.stop i H ∧ Q (.ref D) H) ∨
    (J.go i H ∧ ∃ Nx : Hp → Prop, (∀ H', Nx H' → ∃ m', m' < m ∧ W (i + 1) m' H') ∧ ∀ x H', J.yld i H x H' → g x (wipe σ vs) H' fun σ2 H2 => wipe σ2 vs = wipe σ vs ∧ tt σ2 H2 fun b H3 =>
      if b = true then te σ2 H3 fun y H4 => ∃ (t : Addr) (k : List Int) (ls : List (Addr × List Int)), y = .ref t ∧ SqT K H4 t (k.map V.int) ∧ H4 D = some (SetTO P w D ls) ∧ (∀ p ∈ ls, SqT K H4 p.1 (p.2.map V.int)) ∧ ls.length + 1 < 64 ∧
        ∀ ls', (k ∈ ls.map (·.2) → ls' = ls) → (k ∉ ls.map (·.2) → ls'.Perm ((t, k) :: ls)) → Nx (upd H4 D (SetTO P w D ls'))
      else Nx H3)
theorem set_fresh {P : Program} {w : World} {h : Heap} : SetT0 P w (h.push { cls := .type "set", dict := none, data := .set #[] 0 (.fresh 0 0 (!w.params.followText "set-order")) }) h.objs.size [] :=
  (setTR_fresh (Heap.get?_push_size _ rfl)).t0
theorem pe_setT {elt tg iter : Expr} {ifs : List Expr} {scope : Scope} {own : List (PySem.Str × Nat)} {pos : Pos} {wi : TI} {g : TG} {tt : TT} {te : TE} (hu : X.A.units + 164 < cLine) (hc : X.calm = true) (hN : X.N.Nodup) (hi : PI X tg iter wi) (ok : BlkOk X.N X.env.scope scope own)
    (hg : ∀ (s : Shared) (H : Hp) (C : Addr) (cl : List (PySem.Str × Addr)) (fp : List Addr), PG (X.blk s H scope (compEnvC scope cl C X.env) fp) tg g)
    (ht : ∀ (s : Shared) (H : Hp) (C : Addr) (cl : List (PySem.Str × Addr)) (fp : List Addr), PTs (X.blk s H scope (compEnvC scope cl C X.env) fp) ifs tt)
    (he : ∀ (s : Shared) (H : Hp) (C : Addr) (cl : List (PySem.Str × Addr)) (fp : List Addr), PE (X.blk s H scope (compEnvC scope cl C X.env) fp) elt te)
    (hs : ∀ x, foldedSetIterable iter X.env x = pure x := by intro _; rfl) :
    PE X (.SetComp elt [⟨tg, iter, ifs, 0⟩] scope pos) (tSet X.K X.prog X.w wi g tt te (own.map (·.2))) := by
  refine ⟨fun pins s σ H Q I h => ?_⟩
  rw [PpSet.eval_SetComp]
  have free : ∀ y ∈ scope.names, y.2 = .free → ∃ c, X.env.cells.lookup y.1 = some c := fun y hy e => (ok.free y hy e).elim (fun k => I.ok.has _ (.inl k)) (fun k => I.ok.has _ (.inr k))
  refine wpAny_comprehension_free rfl hs (closure_ok free) ok.kind (fun y hy e => by rw [ok.uniq y hy, e]) ?_
  refine thn (hi.run pins s σ H _ I h) fun xv s1 hx => ?_
  refine thn hx fun itv s2 h2 => ?_
  obtain ⟨it, fp, tn, J, H2, e, I2, T, st2, f2, q⟩ := h2
  subst e
  refine PpSet.newSet_ok (newEnv_comp ?_)
  generalize hD : s2.heap.objs.size = D
  obtain ⟨W, ⟨m0, w0⟩, turn⟩ := q D (I2.hok.fresh (Nat.le_of_eq hD))
  let nw : Obj := { cls := .type "set", dict := none, data := .set #[] 0 (.fresh 0 0 (!X.w.params.followText "set-order")) }
  generalize hs3 : ({ s2 with heap := s2.heap.push nw } : Shared) = s3
  have h3 : s3.heap = s2.heap.push nw := by rw [← hs3]
  have keep3 : ∀ b o, s2.heap.get? b = some o → s3.heap.get? b = some o := fun b o e => by rw [h3]; exact Heap.get?_push_of_some _ e
  have I3 : Inv X pins σ (upd H2 D (SetTO X.prog X.w D [])) s3 := by
    rw [← hs3]
    refine I2.laid (t' := s2.toks) (fun b o e => Heap.get?_push_of_some _ e) (Nat.le_of_eq hD) ?_
    rw [← hD]
    exact setTO_new set_fresh
  have f3 : ∀ b ∈ fp, FpOk X pins (upd H2 D (SetTO X.prog X.w D [])) b ∧ b < s3.heap.objs.size := fun b hb => by
    have hlt : b < s2.heap.objs.size := by
      obtain ⟨o, e, _⟩ := T.obj _ _ st2 b hb
      exact Heap.lt_size e
    refine ⟨⟨?_, (f2 b hb).2⟩, by rw [h3, Heap.size_push]; exact Nat.lt_succ_of_lt hlt⟩
    have hne : b ≠ D := by rw [← hD]; exact Nat.ne_of_lt hlt
    rw [upd_ne hne]
    exact (f2 b hb).1
  have st3 : tn 0 s3.heap := T.keep _ _ _ st2 fun b _ o e => keep3 b o e
  have I4 := block_start I3 ok hN f3
  generalize hH3 : upd H2 D (SetTO X.prog X.w D []) = H3 at I3 I4 w0 f3
  generalize hcl : cellsFrom (s3.heap.objs.size + 1) scope.names (cloFrom X.env.cells scope.names []) = cl at I4
  have pg := hg s3 H3 s3.heap.objs.size cl fp
  have pt := ht s3 H3 s3.heap.objs.size cl fp
  have pe := he s3 H3 s3.heap.objs.size cl fp
  show codeAny _ _ (.compStart (.SetComp elt [⟨tg, iter, ifs, 0⟩] scope pos) 0 (.ref it) (.ref D) (compEnvC scope cl s3.heap.objs.size X.env)) (compPost (model X.prog X.w) X.A X.xe none (EP X pins σ Q) (.ref D) s3.heap.objs.size) { s3 with heap := pushCells (s3.heap.push { cls := .type "dict", data := .dict #[] }) scope.names }
  have nfp : ∀ b ∈ fp, H3 b = none := fun b hb => (f3 b hb).1.1
  generalize hce : compEnvC scope cl s3.heap.objs.size X.env = ce at I4 pg pt pe ⊢
  have cL : ce.locals = s3.heap.objs.size := by rw [← hce]; rfl
  generalize hs4 : ({ s3 with heap := pushCells (s3.heap.push { cls := .type "dict", data := .dict #[] }) scope.names } : Shared) = s4 at I4 ⊢
  have st4 : tn 0 s4.heap := T.keep _ _ _ st3 fun b _ o e => by rw [← hs4]; exact pushCells_keeps _ _ _ _ (Heap.get?_push_of_some _ e)
  have stat : ∀ {σ' : L2.St} {H' : Hp} {s' : Shared}, Inv (X.blk s3 H3 scope ce fp) [] σ' H' s' → (∀ b ∈ fp, H' b = none) → ∀ b ∈ fp, FpOk (X.blk s3 H3 scope ce fp) [] H' b := fun {σ' H' s'} I' hn b hb =>
    ⟨hn b hb, (I'.ok.exf b hb).1, I'.ok.exfs b hb, .inl hb, fun x c e => (I'.ok.exf b hb).2 x c e, fun p hp => nomatch (show p ∈ ([] : List (Addr × Obj)) from hp)⟩
  have hub : (X.blk s3 H3 scope ce fp).A.units + 64 < cLine := by show X.A.units + 64 < cLine; omega
  have loop : codeAny (model X.prog X.w) X.A (.compLoop (.SetComp elt [⟨tg, iter, ifs, 0⟩] scope pos) 0 (.ref it) (.ref D) ce) (compPost (model X.prog X.w) X.A X.xe none (EP X pins σ Q) (.ref D) s3.heap.objs.size) s4 := by
    refine PpSet.compLoopS_any (fun n s' => ∃ i H', Inv (X.blk s3 H3 scope ce fp) [] (wipe σ (own.map (·.2))) H' s' ∧ tn i s'.heap ∧ (∀ b ∈ fp, H' b = none) ∧ W i n H') ?_ m0 ⟨0, H3, I4, st4, nfp, w0⟩
    rintro n s5 ⟨i, H5, I5, st5, n5, w5⟩
    rcases turn i n H5 w5 with ⟨stop, qq⟩ | ⟨go, Nx, hNx, step⟩
    · refine thnF (T.done (X.blk s3 H3 scope ce fp) rfl rfl rfl hc i [] s5 _ H5 (fun _ _ => False) I5 (stat I5 n5) st5 stop) fun r s6 ⟨hr, I6⟩ => ?_
      subst hr
      have I7 : Inv X pins σ H5 s6 := I3.call' (ch := fp) I6.os I6.base I6.hok I6.bare fun b hb => by
        obtain ⟨y0, y1, y2, y3, y4, y5⟩ := (f3 b hb).1
        exact ⟨y3, y1, y4, y5⟩
      have nC : H5 s3.heap.objs.size = none := by
        rw [← cL]
        exact I6.free
      obtain ⟨m, hn, _⟩ := I6.loc
      have hn : s6.heap.Ns ce.locals m := hn
      rw [cL] at hn
      obtain ⟨k0, k1, k2, k3, k4, k5⟩ := I3.fpOk (Nat.le_refl _) nC
      exact ⟨m, hn, fun h'' sb => ⟨.ref D, H5, I7.turned (t' := s6.toks) (fun b o hb e => (sb.2 b hb).trans e) k0 k1 k3 k4 k5, rfl, qq⟩⟩
    · refine thnF (T.item (X.blk s3 H3 scope ce fp) rfl rfl rfl hc i [] s5 _ H5 (fun _ _ => False) I5 (stat I5 n5) st5 go) fun r s6 ⟨u, hr, h6⟩ => ?_
      subst hr
      refine thnF h6 fun _ s7 ⟨x, H7, I7, r7, y7, st7, n7⟩ => ?_
      have P7 := I7.pinned (stat I7 n7) (T.obj _ _ st7)
      refine thnF (pg.run _ s7 _ H7 x u _ P7 r7 (step x H7 y7)) fun _ s8 ⟨σ8, H8, I8, hw8, q8⟩ => ?_
      refine thnF (pt.run _ s8 σ8 H8 _ I8 q8) fun b s9 ⟨H9, I9, q9⟩ => ?_
      have fin : ∀ {s' : Shared} {H' : Hp}, Inv (X.blk s3 H3 scope ce fp) ([] ++ pinsAt fp s7.heap) σ8 H' s' → Nx H' → ∃ m, m < n ∧ ∃ i H', Inv (X.blk s3 H3 scope ce fp) [] (wipe σ (own.map (·.2))) H' s' ∧ tn i s'.heap ∧ (∀ b ∈ fp, H' b = none) ∧ W i m H' := fun {s' H'} I' nx => by
        obtain ⟨m', hm, w'⟩ := hNx H' nx
        have pin' : ∀ b ∈ fp, ∀ o, s7.heap.get? b = some o → s'.heap.get? b = some o ∧ H' b = none := fun b hb o e => by
          have z := I'.pin (b, o) (List.mem_append_right _ (List.mem_append_right _ (mem_pinsAt hb e)))
          exact ⟨z.1, z.2.1⟩
        have hl : (wipe σ (own.map (·.2))).length = σ8.length := by rw [← hw8, wipe_length]
        refine ⟨m', hm, i + 1, H', (I'.unpinned (pins := [])).weak hl (fun j v e => ?_), T.keep _ _ _ st7 fun b hb o e => (pin' b hb o e).1, fun b hb => ?_, w'⟩
        · rw [← hw8] at e
          exact (L2.wipe_some e).1
        · obtain ⟨o, e, _⟩ := T.obj _ _ st7 b hb
          exact (pin' b hb o e).2
      cases b with
      | false =>
        simp only [Bool.false_eq_true, if_false] at q9 ⊢
        exact fin I9 q9
      | true =>
        simp only [if_true] at q9 ⊢
        refine thnF (pe.run _ s9 σ8 H9 _ I9 q9) fun z s10 ⟨yv, H10, I10, r10, t, k, ls, ey, hk10, hD10, hls, hz10, nx⟩ => ?_
        subst ey
        cases (show z = Value.ref t from r10)
        exact addT_ok (X := X.blk s3 H3 scope ce fp) hub I10 hD10 hls hk10 hz10 fun s11 ls' I11 c1 c2 => fin I11 (nx ls' c1 c2)
  exact PpSet.codeAny_compStart_set loop (T.self X.A 0 _ _ _ st4 loop)
end
end Da
namespace Da
open PySem PySem.Spec L2
def cdP (p : Int × Int) : Int := p.1 * 64 + p.2
def dcP (z : Int) : Int × Int := (z / 64, z % 64)
def P64 (p : Int × Int) : Prop := 0 ≤ p.1 ∧ p.1 < 64 ∧ 0 ≤ p.2 ∧ p.2 < 64
instance (p : Int × Int) : Decidable (P64 p) := by unfold P64; exact inferInstance
theorem dc_cd {p : Int × Int} (h : P64 p) : dcP (cdP p) = p := by
  unfold dcP cdP
  obtain ⟨a, b⟩ := p
  obtain ⟨h1, h2, h3, h4⟩ := h
  dsimp only at h1 h2 h3 h4 ⊢
  rw [show (a * 64 + b) / 64 = a by omega, show (a * 64 + b) % 64 = b by omega]
/-- each number once -/
def onceI : List Int → List Int
  | [] => []
  | x :: xs => if x ∈ xs then onceI xs else x :: onceI xs
theorem mem_onceI {x : Int} : ∀ {xs : List Int}, x ∈ onceI xs ↔ x ∈ xs
  | [] => Iff.rfl
  | y :: xs => by
    unfold onceI
    by_cases h : y ∈ xs
    · rw [if_pos h, mem_onceI, List.mem_cons]
      exact ⟨.inr, fun z => z.elim (fun e => by rw [e]; exact h) id⟩
    · rw [if_neg h, List.mem_cons, List.mem_cons, mem_onceI]
theorem nodup_onceI : ∀ xs : List Int, (onceI xs).Nodup
  | [] => List.nodup_nil
  | y :: xs => by
    unfold onceI
    by_cases h : y ∈ xs
    · rw [if_pos h]; exact nodup_onceI xs
    · rw [if_neg h]; exact List.nodup_cons.mpr ⟨fun z => h (mem_onceI.mp z), nodup_onceI xs⟩
/-- the pairs, each once, in order -/
def sortP (ps : List (Int × Int)) : List (Int × Int) := ((onceI (ps.map cdP)).mergeSort leI).map dcP
def pD (p : Int × Int) : D := .tup [.int p.1, .int p.2]
def pairD : D → Option (Int × Int)
  | .tup [.int a, .int b] => if P64 (a, b) then some (a, b) else none
  | _ => none
theorem pairD_some {d : D} {p : Int × Int} (h : pairD d = some p) : d = pD p ∧ P64 p := by
  unfold pairD at h
  split at h
  · split at h
    · rename_i hp
      cases h
      exact ⟨rfl, hp⟩
    · cases h
  · cases h
def pairsD : List D → Option (List (Int × Int))
  | [] => some []
  | d :: ds => match pairD d, pairsD ds with
    | some p, some ps => some (p :: ps)
    | _, _ => none
theorem pairsD_some : ∀ {ds : List D} {ps : List (Int × Int)}, pairsD ds = some ps → ds = ps.map pD ∧ ∀ p ∈ ps, P64 p
  | [], _, h => by cases h; exact ⟨rfl, fun _ z => nomatch z⟩
  | d :: ds, _, h => by
    unfold pairsD at h
    split at h
    · rename_i p ps e1 e2
      cases h
      obtain ⟨a1, a2⟩ := pairD_some e1
      obtain ⟨b1, b2⟩ := pairsD_some e2
      refine ⟨by rw [a1, b1]; rfl, fun q hq => ?_⟩
      rcases List.mem_cons.mp hq with rfl | hq
      · exact a2
      · exact b2 q hq
    · cases h
/-- the parts of a split list -/
theorem pairsD_at {ds rest : List D} {y : D} {ps : List (Int × Int)} (h : pairsD (ds ++ y :: rest) = some ps) : ∃ p, pairD y = some p := by
  induction ds generalizing ps with
  | nil =>
    rw [List.nil_append] at h
    unfold pairsD at h
    split at h
    · rename_i p ps e1 e2; exact ⟨p, e1⟩
    · cases h
  | cons d ds ih =>
    rw [List.cons_append] at h
    unfold pairsD at h
    split at h
    · rename_i p ps e1 e2; exact ih e2
    · cases h
def fSortSc (vs : List Nat) (it : Env → Res (List D)) (g : D → Env → Res Env) (c : Env → Res Bool) (f : Env → Res D) : Env → Res D := fun ρ => (it ρ).bind fun xs => match lcGo g c f (wipeD ρ vs) xs with
  | .ok ys => (match pairsD ys with
    | some ps => if ps.length < 64 then .ok (.lst ((sortP ps).map pD)) else .er
    | none => .er)
  | _ => .er
theorem code_key {p : Int × Int} : TS.code 64 [p.1, p.2] = cdP p := code_pair _ _
def keyP (p : Int × Int) : List Int := [p.1, p.2]
theorem eq_sorted {xs ys : List Int} (h1 : xs.Pairwise (· ≤ ·)) (h2 : xs.Nodup) (h3 : ys.Pairwise (· ≤ ·)) (h4 : ys.Nodup) (h : ∀ z, z ∈ xs ↔ z ∈ ys) : xs = ys := by
  have hp : xs.Perm ys := (List.perm_ext_iff_of_nodup h2 h4).mpr h
  exact List.Perm.eq_of_pairwise (fun a b _ _ hab hba => Int.le_antisymm hab hba) h1 h3 hp
/-- what a sorted list of the members is -/
theorem sorted_members {ps : List (Int × Int)} {L : List (Addr × List Int)} (hps : ∀ p ∈ ps, P64 p) (hm : ∀ k, k ∈ L.map (·.2) ↔ k ∈ ps.map keyP) (hn : (L.map (·.2)).Nodup) (hs : L.Pairwise (fun q r => TS.code 64 q.2 ≤ TS.code 64 r.2)) : L.map (·.2) = (sortP ps).map keyP := by
  have hk : ∀ k ∈ L.map (·.2), ∃ p, p ∈ ps ∧ k = keyP p := fun k h => by
    obtain ⟨p, a, b⟩ := List.mem_map.mp ((hm k).mp h)
    exact ⟨p, a, b.symm⟩
  -- by codes
  have e : (L.map (·.2)).map (TS.code 64) = (onceI (ps.map cdP)).mergeSort leI := by
    refine eq_sorted ?_ ?_ ?_ ?_ fun z => ?_
    · rw [List.map_map, List.pairwise_map]
      exact hs
    · refine List.pairwise_map.mpr (hn.imp_of_mem fun {x y} hx hy hne hxy => hne ?_)
      obtain ⟨p, p1, rfl⟩ := hk x hx
      obtain ⟨q, q1, rfl⟩ := hk y hy
      have : cdP p = cdP q := by rw [← code_key, ← code_key]; exact hxy
      rw [← dc_cd (hps p p1), ← dc_cd (hps q q1), this]
    · have := List.pairwise_mergeSort (le := leI) (fun a b c h1 h2 => by unfold leI at *; simp at *; omega) (fun a b => by unfold leI; simp; omega) (onceI (ps.map cdP))
      exact this.imp fun h => by unfold leI at h; simpa using h
    · exact (List.mergeSort_perm _ _).nodup_iff.mpr (nodup_onceI _)
    · rw [(List.mergeSort_perm _ _).mem_iff, mem_onceI]
      constructor
      · intro h
        obtain ⟨k, h1, h2⟩ := List.mem_map.mp h
        obtain ⟨p, p1, rfl⟩ := hk k h1
        rw [← h2]
        exact List.mem_map.mpr ⟨p, p1, code_key.symm⟩
      · intro h
        obtain ⟨p, p1, p2⟩ := List.mem_map.mp h
        refine List.mem_map.mpr ⟨keyP p, (hm _).mpr (List.mem_map_of_mem p1), ?_⟩
        rw [← p2]
        exact code_key
  unfold sortP
  rw [← e, List.map_map, List.map_map, List.map_map]
  refine (List.map_congr_left fun q hq => ?_).symm
  obtain ⟨p, p1, p2⟩ := hk q.2 (List.mem_map_of_mem hq)
  show keyP (dcP (TS.code 64 q.2)) = q.2
  rw [p2]
  show keyP (dcP (TS.code 64 [p.1, p.2])) = _
  rw [code_key, dc_cd (hps p p1)]
section
variable {K : PySem.W.Frag} {mg : Str → Option Value} {P : Program} {w : World} {E : WX} {m : Mds} {it : Env → Res (List D)} {g : D → Env → Res Env} {c : Env → Res Bool} {f : Env → Res D} {ts vs : List Nat}
/-- the set under way -/
def ScW (K : PySem.W.Frag) (P : Program) (w : World) (g : D → Env → Res Env) (c : Env → Res Bool) (f : Env → Res D) (ρ : Env) (xs ys : List D) (D0 : Addr) (S1 H1 : Hp) (i : Nat) (H : Hp) : Prop :=
  ∃ S2 ls done rest, Step S1 H1 S2 H ∧ S2 D0 = none ∧ H D0 = some (SetTO P w D0 ls) ∧ (∀ p ∈ ls, S2 p.1 = some (.tup (p.2.map V.int))) ∧ (ls.map (·.2)).Nodup ∧ (∀ k, k ∈ ls.map (·.2) ↔ k ∈ (done : List (Int × Int)).map keyP) ∧ ls.length ≤ done.length ∧ lcGo g c f ρ (xs.drop i) = .ok rest ∧ ys = done.map pD ++ rest
theorem pD_rep {S : Hp} {v : V} {p : Int × Int} (h : Rep K mg S v (pD p)) : ∃ t, v = .ref t ∧ S t = some (.tup ((keyP p).map V.int)) := by
  unfold pD at h
  generalize he : D.tup [.int p.1, .int p.2] = d at h
  cases h with
  | @tup a ws ds hq hl hi =>
    injection he with he
    subst he
    refine ⟨_, rfl, ?_⟩
    match ws, hl with
    | [x, y], _ =>
      have h0 := hi 0 x (.int p.1) rfl rfl
      have h1 := hi 1 y (.int p.2) rfl rfl
      cases h0
      cases h1
      exact hq
  | _ => cases he
theorem sc_ok {σ : L2.St} {H : Hp} {Q : VK} (hts : ∀ t ∈ ts, t ∈ vs) (h : tE K mg E m .ow (fSortSc vs it g c f) σ H Q) :
    tSet K P w (tI K mg E m it) (tGD K mg m ts g) (tT K mg EF m c) (tE K mg EF m .sh f) vs σ H (fun x H1 => rSortedT K P w [x] H1 Q) := by
  obtain ⟨S, ρ, hm, hp⟩ := h
  refine ⟨S, ρ, hm, (Post.bind hp).imp fun xs S1 H1 s1 k J w D0 hD => ?_⟩
  split at k
  · rename_i ys eg
    split at k
    · rename_i ps eps
      split at k
      · rename_i h64
        obtain ⟨ey0, hps⟩ := pairsD_some eps
        refine ⟨fun i n H => n = xs.length - i ∧ i ≤ xs.length ∧ ScW K _ _ g c f (wipeD ρ vs) xs ys D0 S1 H1 i H, ⟨xs.length, by simp, Nat.zero_le _, S1, [], [], ys, Step.hid s1.sub hD, s1.sub.free hD, upd_same, (fun _ z => nomatch z), List.nodup_nil, (fun _ => Iff.rfl), Nat.le_refl _, eg, rfl⟩, ?_⟩
        rintro i n H2 ⟨rfl, hi, S2, ls, done, rest, st2, hs2, hd2, rv, nd, mem, hle, el, ey⟩
        by_cases hlt : i < xs.length
        · obtain ⟨hgo, hyl⟩ := w.go i xs[i] S2 H2 (List.getElem?_eq_getElem hlt) st2.ss st2.sub
          refine .inr ⟨hgo, ScW K _ _ g c f (wipeD ρ vs) xs ys D0 S1 H1 (i + 1), fun H' z => ⟨xs.length - (i + 1), by omega, rfl, hlt, z⟩, fun x H3 y => ?_⟩
          obtain ⟨S3, s3, r3⟩ := hyl x H3 y
          rw [List.drop_eq_getElem_cons hlt] at el
          unfold lcGo at el
          split at el
          · rename_i ρ1 eg1
            have st3 := st2.trans s3
            obtain ⟨F, stF⟩ := (((hm.step s1).step st3).wipe vs).bare
            refine ⟨_, _, S3, F, wipeD ρ vs, xs[i], stF, r3, ?_⟩
            rw [eg1]
            intro σ4 S4 F4 H4 st4 s4 hfr
            refine ⟨wipe_eq (by rw [hfr.1, L2.wipe_length]) hfr.2 hts, S4, ρ1, st4.envM, ?_⟩
            split at el
            · rename_i b ec
              rw [ec]
              intro S5 H5 s5
              have a5 := (s3.trans s4).trans s5
              cases b with
              | false =>
                rw [if_neg (by decide)] at el
                show ScW K _ _ g c f (wipeD ρ vs) xs ys D0 S1 H1 (i + 1) H5
                exact ⟨S5, ls, done, rest, st2.trans a5, a5.out hs2 hd2, a5.hh _ _ hd2, fun p hp => a5.ss _ _ (rv p hp), nd, mem, hle, el, ey⟩
              | true =>
                rw [if_pos rfl] at el
                show tE K mg EF m Md.sh f σ4 H5 _
                split at el
                · rename_i y' ef
                  refine ⟨S5, ρ1, (st4.envM).step s5, ?_⟩
                  rw [ef]
                  intro v S6 H6 fp s6 o _ _
                  have a6 := a5.trans s6
                  split at el
                  · rename_i rest' er
                    cases el
                    have epx := eps
                    rw [ey] at epx
                    obtain ⟨p, hp⟩ := pairsD_at epx
                    obtain ⟨e1, hp64⟩ := pairD_some hp
                    have hr : Rep K mg S6 v (pD p) := by rw [← e1]; exact o.1
                    obtain ⟨t, rfl, ht⟩ := pD_rep hr
                    have hlen : ps.length = done.length + (rest'.length + 1) := by
                      have z := congrArg List.length ey0
                      rw [List.length_map, ey] at z
                      simp at z
                      omega
                    have rv6 : ∀ q ∈ ls, S6 q.1 = some (.tup (q.2.map V.int)) := fun q hq => a6.ss _ _ (rv q hq)
                    refine ⟨t, keyP p, ls, rfl, .inl (.inl (s6.sub _ _ ht)), a6.hh _ _ hd2, fun q hq => .inl (.inl (s6.sub _ _ (rv6 q hq))), by omega, fun ls' c1 c2 => ?_⟩
                    refine ⟨S6, ls', done ++ [p], rest', (st2.trans a6).write (a6.out hs2 hd2) hD, a6.out hs2 hd2, upd_same, ?_, ?_, ?_, ?_, er, by rw [ey, e1]; simp⟩
                    all_goals by_cases hk : keyP p ∈ ls.map (·.2)
                    · rw [c1 hk]; exact rv6
                    · intro q hq
                      rcases List.mem_cons.mp ((c2 hk).mem_iff.mp hq) with z | z
                      · rw [z]; exact ht
                      · exact rv6 q z
                    · rw [c1 hk]; exact nd
                    · exact (((c2 hk).map (·.2)).nodup_iff).mpr (List.nodup_cons.mpr ⟨hk, nd⟩)
                    · rw [c1 hk]
                      intro k'
                      rw [List.map_append, List.mem_append]
                      refine ⟨fun z => .inl ((mem k').mp z), fun z => z.elim (mem k').mpr fun z => ?_⟩
                      have : k' = keyP p := by simpa using z
                      rw [this]; exact hk
                    · intro k'
                      rw [((c2 hk).map (·.2)).mem_iff, List.map_append, List.mem_append, List.map_cons, List.mem_cons, mem k']
                      constructor
                      · rintro (z | z)
                        · exact .inr (by rw [z]; simp)
                        · exact .inl z
                      · rintro (z | z)
                        · exact .inr z
                        · exact .inl (by simpa using z)
                    · rw [c1 hk, List.length_append]; omega
                    · rw [(c2 hk).length_eq, List.length_append, List.length_cons]; simp; omega
                  · cases el
                · cases el
            · cases el
          · cases el
        · have e : i = xs.length := by omega
          subst e
          rw [List.drop_length] at el
          cases el
          rw [List.append_nil] at ey
          have hdn : done = ps := by
            have z : done.map pD = ps.map pD := ey.symm.trans ey0
            exact List.map_inj_right (fun a b h => by
              unfold pD at h
              injection h with h
              injection h with h1 h
              injection h1 with h1
              injection h with h2 _
              injection h2 with h2
              exact Prod.ext h1 h2) |>.mp z
          subst hdn
          refine .inl ⟨w.stop S2 H2 st2.ss st2.sub, D0, ls, 2, 64, rfl, hd2, fun q hq => .inl (.inl (st2.sub _ _ (rv q hq))), by decide, fun q hq => ?_, fun L' p pm ndL few pw hpn => ?_⟩
          · obtain ⟨p, p1, p2⟩ := List.mem_map.mp ((mem q.2).mp (List.mem_map_of_mem hq))
            rw [← p2]
            refine ⟨rfl, fun z hz => ?_⟩
            obtain ⟨b1, b2, b3, b4⟩ := hps p p1
            have : z = p.1 ∨ z = p.2 := by simpa [keyP] using hz
            rcases this with rfl | rfl
            · exact ⟨b1, b2⟩
            · exact ⟨b3, b4⟩
          · have es := sorted_members hps (fun k => by rw [(pm.map (·.2)).mem_iff]; exact mem k) ndL pw
            have hp1 : H1 p = none := st2.hh.free hpn
            refine k _ S2 _ [p] (st2.trans (Step.hid st2.sub hpn)) ⟨p, L'.map fun q => V.ref q.1, (sortP done).map pD, rfl, rfl, rfl, st2.sub.free hpn, upd_same, ?_⟩ (by simp) (fun a z => by
              have : a = p := by simpa using z
              rw [this]; exact hp1)
            have el : (sortP done).map pD = L'.map fun q => D.tup (q.2.map D.int) := by
              have : L'.map (fun q => D.tup (q.2.map D.int)) = (L'.map (·.2)).map fun k => D.tup (k.map D.int) := by rw [List.map_map]; rfl
              rw [this, es, List.map_map]
              rfl
            rw [el]
            refine ⟨by rw [List.length_map, List.length_map], fun j v d a b => ?_⟩
            rw [List.getElem?_map] at a b
            cases ej : L'[j]? with
            | none => rw [ej] at a; cases a
            | some q =>
              rw [ej] at a b
              cases a; cases b
              have hq := rv q (pm.mem_iff.mp (List.mem_of_getElem? ej))
              exact Rep.tupL hq ⟨by rw [List.length_map, List.length_map], fun j v d a b => by
                rw [List.getElem?_map] at a b
                cases ez : q.2[j]? with
                | none => rw [ez] at a; cases a
                | some z =>
                  rw [ez] at a b
                  cases a; cases b
                  exact .int z⟩
      · exact k.elim
    · exact k.elim
  · exact k.elim
end
section
variable {X : Cx} {E : WX} {m : Mds} {ts : List Nat} {N0 ps0 : List Str} {sc0 : Scope} {elt tg iter : Expr} {ifs : List Expr} {scope : Scope} {own : List (Str × Nat)} {pos p cpos : Pos} {it : Env → Res (List D)} {g : D → Env → Res Env} {c : Env → Res Bool} {f : Env → Res D}
theorem je_sortSc (Sc : FnScope N0 ps0 sc0) (own : List (Str × Nat)) (hr : RmU X.A) (hmS : X.mg "sorted" = none) (hi : JI X E m tg iter it)
    (hg : ∀ (s : Shared) (H : Hp) (C : Addr) (cl : List (Str × Addr)) (fp : List Addr), JG (X.blk s H scope (compEnvC scope cl C X.env) fp) m ts tg g) (ht : ∀ (s : Shared) (H : Hp) (C : Addr) (cl : List (Str × Addr)) (fp : List Addr), JTs (X.blk s H scope (compEnvC scope cl C X.env) fp) EF m ifs c)
    (he : ∀ (s : Shared) (H : Hp) (C : Addr) (cl : List (Str × Addr)) (fp : List Addr), JE (X.blk s H scope (compEnvC scope cl C X.env) fp) EF m .sh elt f) (hc : X.calm = true := by rfl) (hgS : Gl X "sorted" := by rfl) (hN0 : X.N = N0 := by rfl) (hsc : X.env.scope = sc0 := by rfl) (ok : blkC N0 sc0 scope own = true := by decide +kernel) (hts : ∀ t ∈ ts, t ∈ own.map (·.2) := by decide)
    (hs : ∀ x, foldedSetIterable iter X.env x = pure x := by intro _; rfl)
    (hst : starEach [.SetComp elt [⟨tg, iter, ifs, 0⟩] scope pos] X.env = (false, eval (.SetComp elt [⟨tg, iter, ifs, 0⟩] scope pos) X.env) :: starEach [] X.env := by rfl) :
    JE X E m .ow (.Call (.Name "sorted" p) [.SetComp elt [⟨tg, iter, ifs, 0⟩] scope pos] [] cpos) (fSortSc (own.map (·.2)) it g c f) :=
  ⟨PEimp (pe_callB (cr_sortedT hc) hgS hmS (by decide +kernel) (pa_cons (pe_setT (g := tGD X.K X.mg m ts g) (tt := tT X.K X.mg EF m c) (te := tE X.K X.mg EF m .sh f) (by unfold RmU at hr; omega) hc (by rw [hN0]; exact Sc.nd) hi.pi (blkOk_by (by rw [hN0, hsc]; exact ok)) (fun s H C cl fp => (hg s H C cl fp).pg) (fun s H C cl fp => (ht s H C cl fp).pt) (fun s H C cl fp => (he s H C cl fp).pe) hs) pa_nil hst) (by decide) (by decide) hst (by rfl)) fun σ H Q h => sc_ok hts h⟩
end
end Da
namespace Da
open PySem PySem.Spec L2
section
variable {X : Cx} {E : WX} {m : Mds} {pos : Pos} {x : Str}
def GlobI (mg : Str → Option Value) (x : Str) (i : Int) : Prop := ∃ t, mg x = some (.int i t)
theorem je_globI {i : Int} (h : GlobI X.mg x i) (hg : Gl X x := by rfl) (hdb : (x == ("__debug__" : Str)) = false := by decide) : JE X E m .sh (.Name x pos) (fC (.int i)) := by
  obtain ⟨t, hm⟩ := h
  exact ⟨PEimp (pe_glob (v := .int i) hg hm ⟨t, rfl⟩ hdb) fun σ H Q q => by
    obtain ⟨S, ρ, he, hp⟩ := q
    exact hp.val he.1 (.int i)⟩
theorem globI_mk {mg : Str → Option Value} {i : Int} {t : Tok} (h : mg x = some (.int i t)) : GlobI mg x i := ⟨t, h⟩
end
end Da
namespace Da
open PySem PySem.Spec L2
/-- the mode of an own tree, n deep; .. that is lent and stands at q -/
def mdT : Nat → Md
  | 0 => .sh
  | 1 => .ow
  | n + 2 => .tr (n + 2) none none
def mdL : Nat → Addr → Md
  | 0, _ => .sh
  | 1, q => .owq q
  | n + 2, q => .tr (n + 2) none (some q)
def IsTr (n : Nat) (md : Md) : Prop := md = mdT n ∨ ∃ q, md = mdL n q
section
variable {K : PySem.W.Frag} {mg : Str → Option Value} {m : Mds} {S0 H0 S S' H H' : Hp} {σ : L2.St} {ρ : Env} {F : Nat → List Addr} {fp : List Addr} {v : V} {d : D}
theorem flat_nil : ∀ {fps : List (List Addr)}, (∀ (j : Nat) (f : List Addr), fps[j]? = some f → f = []) → fps.flatten = []
  | [], _ => rfl
  | f :: fps, h => by
    have h0 : f = [] := h 0 f rfl
    have h1 := flat_nil (fps := fps) fun j g e => h (j + 1) g (by simpa using e)
    rw [List.flatten_cons, h0, h1]
    rfl
theorem own1 : OwnTr K mg S H 1 fp v d ↔ ∃ p vs ds, v = .ref p ∧ d = .lst ds ∧ fp = [p] ∧ S p = none ∧ H p = some (.lst vs) ∧ RepL K mg S vs ds := by
  constructor
  · rintro ⟨p, vs, ds, fps, e1, e2, e3, e4, e5, e6, e7, e8⟩
    refine ⟨p, vs, ds, e1, e2, ?_, e4, e5, ⟨e6, fun i w e a b => ?_⟩⟩
    · rw [e3, flat_nil fun j f ej => ?_]
      have hl := (List.getElem?_eq_some_iff.mp ej).1
      exact (e8 j _ _ f (List.getElem?_eq_getElem (by omega)) (List.getElem?_eq_getElem (by omega)) ej).2
    · have hl := (List.getElem?_eq_some_iff.mp b).1
      exact (e8 i w e _ a b (List.getElem?_eq_getElem (l := fps) (by omega))).1
  · rintro ⟨p, vs, ds, e1, e2, e3, e4, e5, e6⟩
    refine ⟨p, vs, ds, List.replicate ds.length [], e1, e2, ?_, e4, e5, e6.len, by simp, fun j w e f a b c => ?_⟩
    · rw [e3, flat_nil]
      intro j f ej
      rw [List.getElem?_replicate] at ej
      split at ej
      · cases ej; rfl
      · cases ej
    · rw [List.getElem?_replicate] at c
      split at c
      · cases c; exact ⟨e6.at_ j w e a b, rfl⟩
      · cases c
theorem mdT_own : ∀ {n : Nat}, OwnAt K mg S H fp v d (mdT n) ↔ OwnTr K mg S H n fp v d
  | 0 => Iff.rfl
  | 1 => own1.symm
  | n + 2 => ⟨fun h => h.2, fun h => ⟨(fun q z => nomatch z), h⟩⟩
theorem mdL_own : ∀ {n : Nat} {q : Addr}, OwnAt K mg S H fp v d (mdL (n + 1) q) ↔ v = .ref q ∧ OwnTr K mg S H (n + 1) fp v d
  | 0, q => ⟨fun h => ⟨h.1, own1.mpr h.2⟩, fun h => ⟨h.1, own1.mp h.2⟩⟩
  | n + 1, q => ⟨fun h => ⟨h.1 q rfl, h.2⟩, fun h => ⟨fun q' z => by cases z; exact h.1, h.2⟩⟩
theorem IsTr.own {n : Nat} {md : Md} (hmd : IsTr (n + 1) md) (h : OwnAt K mg S H fp v d md) : OwnTr K mg S H (n + 1) fp v d := by
  rcases hmd with hmd | ⟨q, hmd⟩
  · rw [hmd] at h; exact mdT_own.mp h
  · rw [hmd] at h; exact (mdL_own.mp h).2
/-- the same thing, changed -/
theorem IsTr.back {n : Nat} {md : Md} {fp' : List Addr} {d' : D} (hmd : IsTr (n + 1) md) (h : OwnAt K mg S H fp v d md) (k : OwnTr K mg S' H' (n + 1) fp' v d') : OwnAt K mg S' H' fp' v d' md := by
  rcases hmd with hmd | ⟨q, hmd⟩
  · rw [hmd]; exact mdT_own.mpr k
  · rw [hmd] at h ⊢; exact mdL_own.mpr ⟨(mdL_own.mp h).1, k⟩
theorem OwnTr.agree : ∀ {n : Nat} {fp : List Addr} {v : V} {d : D}, (∀ a, a ∈ fp → H' a = H a) → OwnTr K mg S H n fp v d → OwnTr K mg S H' n fp v d
  | 0, _, _, _, _, h => h
  | n + 1, _, _, _, hf, h => by
    obtain ⟨q, vs, ds, fps, e1, e2, e3, e4, e5, e6, e7, e8⟩ := h
    exact ⟨q, vs, ds, fps, e1, e2, e3, e4, by rw [hf q (by rw [e3]; exact List.mem_cons_self)]; exact e5, e6, e7, fun j w e f x y z => (e8 j w e f x y z).agree fun a ha => hf a (by rw [e3]; exact List.mem_cons_of_mem _ (flat_mem z ha))⟩
theorem OwnAt.agree {md : Md} (hf : ∀ a, a ∈ fp → H' a = H a) (h : OwnAt K mg S H fp v d md) : OwnAt K mg S H' fp v d md := by
  cases md with
  | owq q0 =>
    obtain ⟨e0, p, vs, ds, e1, e2, e3, e4, e5, e6⟩ := h
    exact ⟨e0, p, vs, ds, e1, e2, e3, e4, by rw [hf p (by rw [e3]; exact List.mem_cons_self)]; exact e5, e6⟩
  | tr n b at_ =>
    cases b with
    | none => exact ⟨h.1, h.2.agree hf⟩
    | some kq =>
      obtain ⟨h0, p, vs, ds, fps, e1, e2, e3, e4, e5, e6, e7, h1, h2, h3, e8⟩ := h
      exact ⟨h0, p, vs, ds, fps, e1, e2, e3, e4, by rw [hf p (by rw [e3]; exact List.mem_cons_self)]; exact e5, e6, e7, h1, h2, h3, fun j w e f i x y z => (e8 j w e f i x y z).agree fun a ha => hf a (by rw [e3]; exact List.mem_cons_of_mem _ (flat_mem z ha))⟩
  | ex a0 b0 c0 => exact h
  | sh => exact h
  | ow =>
    obtain ⟨p, vs, ds, e1, e2, e3, e4, e5, e6⟩ := h
    exact ⟨p, vs, ds, e1, e2, e3, e4, by rw [hf p (by rw [e3]; exact List.mem_cons_self)]; exact e5, e6⟩
  | ow2 =>
    obtain ⟨q, ps, dss, e1, e2, e3, e4, e5, e6, e7⟩ := h
    refine ⟨q, ps, dss, e1, e2, e3, e4, by rw [hf q (by rw [e3]; exact List.mem_cons_self)]; exact e5, e6, fun j r ds x y => ?_⟩
    obtain ⟨z1, vs, z2, z3⟩ := e7 j r ds x y
    exact ⟨z1, vs, by rw [hf r (by rw [e3]; exact List.mem_cons_of_mem _ (List.mem_of_getElem? x))]; exact z2, z3⟩
  | dk =>
    obtain ⟨p, vs, ds, e1, e2, e3, e4, e5, e6⟩ := h
    exact ⟨p, vs, ds, e1, e2, e3, e4, by rw [hf p (by rw [e3]; exact List.mem_cons_self)]; exact e5, e6⟩
  | dt =>
    obtain ⟨p, vs, ds, e1, e2, e3, e4, e5, e6⟩ := h
    exact ⟨p, vs, ds, e1, e2, e3, e4, by rw [hf p (by rw [e3]; exact List.mem_cons_self)]; exact e5, e6⟩
  | ob q =>
    obtain ⟨dx, C, c, fs, ds, e1, e2, e3, e4, e5, e6, e7, e8, e9⟩ := h
    exact ⟨dx, C, c, fs, ds, e1, e2, e3, e4, e5, e6, by rw [hf q (by rw [e3]; exact List.mem_cons_self)]; exact e7, by rw [hf dx (by rw [e3]; exact List.mem_cons_of_mem _ List.mem_cons_self)]; exact e8, e9⟩
/-- slot i's thing is changed in its own place, with what is new -/
theorem StF.put {i : Nat} {d0 d1 : D} {fp' : List Addr} (st : StF K mg m S0 H0 S F σ ρ H) (hρ : ρ[i]? = some (some d0)) (hσ : σ[i]? = some (some v)) (hch : ∀ a, a ∉ F i → H' a = H a)
    (o : OwnAt K mg S H' fp' v d1 (mdAt m i)) (hn : fp'.Nodup) (hf : ∀ a, a ∈ fp' → a ∈ F i ∨ (H0 a = none ∧ ∀ j d, j ≠ i → ρ[j]? = some (some d) → a ∉ F j)) :
    StF K mg m S0 H0 S (F_set F i fp') σ (ρ.set i (some d1)) H' := by
  obtain ⟨s, en, nw⟩ := st
  have hil : i < ρ.length := (List.getElem?_eq_some_iff.mp hρ).1
  have key : ∀ j d', (ρ.set i (some d1))[j]? = some (some d') → (j = i ∧ d' = d1) ∨ (j ≠ i ∧ ρ[j]? = some (some d')) := fun j d' ej => by
    by_cases hj : j = i
    · subst hj
      rw [List.getElem?_set_self hil] at ej
      injection ej with z; injection z with z
      exact .inl ⟨rfl, z.symm⟩
    · rw [List.getElem?_set_ne (Ne.symm hj)] at ej
      exact .inr ⟨hj, ej⟩
  obtain ⟨v0, ev0, o0⟩ := en.at_ i d0 hρ
  have apart : ∀ j d', j ≠ i → ρ[j]? = some (some d') → ∀ a, a ∈ fp' → a ∉ F j := fun j d' hj ej a ha => by
    rcases hf a ha with z | z
    · exact en.apart i j _ d' (Ne.symm hj) hρ ej a z
    · exact z.2 j d' hj ej
  refine ⟨⟨fun a u ea => ?_, s.ss, fun a u ea => ?_, s.new⟩, ⟨by rw [List.length_set]; exact en.len, fun j d' ej => ?_, fun j d' ej => ?_, fun j k a b hjk e1 e2 => ?_⟩, fun j d' ej => ?_⟩
  · rw [hch a (fun z => by rw [nw i _ hρ a z] at ea; cases ea)]
    exact s.hh a u ea
  · rw [hch a (fun z => by rw [(o0.out z).1] at ea; cases ea)]
    exact s.sub a u ea
  · rcases key j d' ej with ⟨rfl, rfl⟩ | ⟨hj, ej'⟩
    · exact ⟨v, hσ, by rw [F_at]; exact o⟩
    · obtain ⟨w, e1, o1⟩ := en.at_ j d' ej'
      rw [F_off hj]
      exact ⟨w, e1, o1.agree fun a ha => hch a (en.apart j i d' _ hj ej' hρ a ha)⟩
  · rcases key j d' ej with ⟨rfl, rfl⟩ | ⟨hj, ej'⟩
    · rw [F_at]; exact hn
    · rw [F_off hj]; exact en.nd j d' ej'
  · rcases key j a e1 with ⟨rfl, rfl⟩ | ⟨hj, e1'⟩
    · rcases key k b e2 with ⟨z, _⟩ | ⟨hk, e2'⟩
      · exact absurd z.symm hjk
      · rw [F_at, F_off hk]; exact apart k b hk e2'
    · rcases key k b e2 with ⟨rfl, rfl⟩ | ⟨hk, e2'⟩
      · rw [F_at, F_off hj]; exact fun x hx z => apart j a hj e1' x z hx
      · rw [F_off hj, F_off hk]; exact en.apart j k a b hjk e1' e2'
  · rcases key j d' ej with ⟨rfl, rfl⟩ | ⟨hj, ej'⟩
    · rw [F_at]; intro a ha
      rcases hf a ha with z | z
      · exact nw _ _ hρ a z
      · exact z.1
    · rw [F_off hj]; exact nw j d' ej'
/-- what is known of an own tree -/
theorem StF.ownT {i n : Nat} (st : StF K mg m S0 H0 S F σ ρ H) (hmd : IsTr (n + 1) (mdAt m i)) (hρ : ρ[i]? = some (some d)) :
    ∃ v, σ[i]? = some (some v) ∧ OwnAt K mg S H (F i) v d (mdAt m i) ∧ OwnTr K mg S H (n + 1) (F i) v d ∧ (F i).Nodup := by
  obtain ⟨v, e1, o⟩ := st.2.1.at_ i d hρ
  exact ⟨v, e1, o, hmd.own o, st.2.1.nd i d hρ⟩
theorem set_flat {fps : List (List Addr)} {k : Nat} {f g : List Addr} (hk : fps[k]? = some f) (a : Addr) : a ∈ (fps.set k g).flatten ↔ a ∈ g ∨ ∃ j h, j ≠ k ∧ fps[j]? = some h ∧ a ∈ h := by
  have hkl := (List.getElem?_eq_some_iff.mp hk).1
  constructor
  · intro h
    obtain ⟨j, f', hj, ha⟩ := mem_flat h
    by_cases hjk : j = k
    · subst hjk
      rw [List.getElem?_set_self hkl] at hj
      cases hj
      exact .inl ha
    · rw [List.getElem?_set_ne (Ne.symm hjk)] at hj
      exact .inr ⟨j, f', hjk, hj, ha⟩
  · rintro (h | ⟨j, f', hjk, hj, ha⟩)
    · exact flat_mem (j := k) (List.getElem?_set_self hkl) h
    · exact flat_mem (j := j) (by rw [List.getElem?_set_ne (Ne.symm hjk)]; exact hj) ha
theorem nd_split : ∀ {fps : List (List Addr)} {k : Nat} {f : List Addr}, fps[k]? = some f → (fps.flatten.Nodup ↔ f.Nodup ∧ (fps.set k []).flatten.Nodup ∧ ∀ a, a ∈ f → a ∉ (fps.set k []).flatten)
  | [], k, f, h => by simp at h
  | g :: fps, 0, f, h => by
    cases h
    simp only [List.set_cons_zero, List.flatten_cons, List.nil_append]
    rw [List.nodup_append]
    exact ⟨fun ⟨a, b, c⟩ => ⟨a, b, fun x hx hy => c x hx x hy rfl⟩, fun ⟨a, b, c⟩ => ⟨a, b, fun x hx y hy z => c x hx (by rw [z]; exact hy)⟩⟩
  | g :: fps, k + 1, f, h => by
    have h' : fps[k]? = some f := by simpa using h
    have ih := nd_split h'
    simp only [List.set_cons_succ, List.flatten_cons]
    rw [List.nodup_append, List.nodup_append, ih]
    have hkl := (List.getElem?_eq_some_iff.mp h').1
    have mem : ∀ a, a ∈ fps.flatten ↔ a ∈ f ∨ a ∈ (fps.set k []).flatten := fun a => by
      have e : fps.set k f = fps := by
        refine List.ext_getElem? fun j => ?_
        rw [List.getElem?_set]
        split
        · rename_i hj; subst hj; first | (rw [if_pos hkl, h']) | exact h'.symm
        · rfl
      have := set_flat (g := f) h' a
      rw [e] at this
      have t2 := set_flat (g := []) h' a
      rw [this, t2]
      simp
    constructor
    · rintro ⟨a, ⟨b, c, dd⟩, e⟩
      refine ⟨b, ⟨a, c, fun x hx y hy => e x hx y ((mem y).mpr (.inr hy))⟩, fun x hx hy => ?_⟩
      rcases List.mem_append.mp hy with z | z
      · exact e x z x ((mem x).mpr (.inl hx)) rfl
      · exact dd x hx z
    · rintro ⟨b, ⟨a, c, e⟩, dd⟩
      refine ⟨a, ⟨b, c, fun x hx hy => dd x hx (List.mem_append_right _ hy)⟩, fun x hx y hy z => ?_⟩
      rcases (mem y).mp hy with w | w
      · exact dd y w (List.mem_append_left _ (by rw [← z]; exact hx))
      · exact e x hx y w z
/-- an inner thing is replaced by one of one's own -/
theorem OwnTr.setT {n k : Nat} {p : Addr} {vs : List V} {ds : List D} {fps : List (List Addr)} {w : V} {e : D} {f g : List Addr}
    (sp : S p = none) (h6 : vs.length = ds.length) (h7 : fps.length = ds.length) (h8 : ∀ (j : Nat) (w : V) (e : D) (f : List Addr), j ≠ k → vs[j]? = some w → ds[j]? = some e → fps[j]? = some f → OwnTr K mg S H n f w e)
    (hp : H p = some (.lst (vs.set k w))) (o : OwnTr K mg S H n g w e) (hk : k < ds.length) : OwnTr K mg S H (n + 1) (p :: (fps.set k g).flatten) (.ref p) (.lst (ds.set k e)) := by
  refine ⟨p, vs.set k w, ds.set k e, fps.set k g, rfl, rfl, rfl, sp, hp, by simp [h6], by simp [h7], fun j w' e' f' a b c => ?_⟩
  by_cases hj : j = k
  · subst hj
    rw [List.getElem?_set_self (by omega)] at a b c
    cases a; cases b; cases c
    exact o
  · rw [List.getElem?_set_ne (Ne.symm hj)] at a b c
    exact h8 j w' e' f' hj a b c
end
section
variable {K : PySem.W.Frag} {mg : Str → Option Value} {E : WX} {m : Mds} {it : Env → Res (List D)} {g : D → Env → Res Env} {c : Env → Res Bool} {f : Env → Res D} {ts vs : List Nat}
/-- the list of new trees under way -/
def LcT (K : PySem.W.Frag) (mg : Str → Option Value) (n : Nat) (g : D → Env → Res Env) (c : Env → Res Bool) (f : Env → Res D) (ρ : Env) (xs ys : List D) (D0 : Addr) (S1 H1 : Hp) (i : Nat) (H : Hp) : Prop :=
  ∃ (S2 : Hp) (ws : List V) (ds : List D) (fps : List (List Addr)) (rest : List D), Step S1 H1 S2 H ∧ S2 D0 = none ∧ H D0 = some (.lst ws) ∧ ws.length = ds.length ∧ fps.length = ds.length ∧
    (∀ (j : Nat) (w : V) (e : D) (f : List Addr), ws[j]? = some w → ds[j]? = some e → fps[j]? = some f → OwnTr K mg S2 H n f w e) ∧
    (D0 :: fps.flatten).Nodup ∧ (∀ q, q ∈ fps.flatten → H1 q = none) ∧ lcGo g c f ρ (xs.drop i) = .ok rest ∧ ys = ds ++ rest ∧ ds.length ≤ i
theorem flat_snoc {fps : List (List Addr)} {g : List Addr} : (fps ++ [g]).flatten = fps.flatten ++ g := by simp
theorem lcT_ok {n : Nat} {σ : L2.St} {H : Hp} {Q : VK} (hts : ∀ t ∈ ts, t ∈ vs) (h : tE K mg E m (mdT (n + 1)) (fLc vs it g c f) σ H Q) :
    tLc (tI K mg E m it) (tGD K mg m ts g) (tT K mg EF m c) (tE K mg EF m (mdT n) f) vs σ H Q := by
  obtain ⟨S, ρ, hm, hp⟩ := h
  refine ⟨S, ρ, hm, (Post.bind hp).imp fun xs S1 H1 s1 k J w D0 hD => ?_⟩
  split at k
  rotate_left
  · exact k.elim
  rename_i hz
  have hz := szOk_ok hz
  cases eg : lcGo g c f (wipeD ρ vs) xs with
  | ex c' fs => rw [eg] at k; exact k.elim
  | er => rw [eg] at k; exact k.elim
  | ok ys =>
    rw [eg] at k
    have k : Post K mg (WE E σ) S1 H1 (mdT (n + 1)) (.ok (.lst ys)) Q := k
    refine ⟨fun i u H => u = xs.length - i ∧ i ≤ xs.length ∧ LcT K mg n g c f (wipeD ρ vs) xs ys D0 S1 H1 i H, ⟨xs.length, by simp, Nat.zero_le _, S1, [], [], [], ys, Step.hid s1.sub hD, s1.sub.free hD, upd_same, rfl, rfl, (fun j w e f a _ _ => by simp at a), (by simp), (fun q hq => by simp at hq), eg, rfl, Nat.le_refl _⟩, ?_⟩
    rintro i u H2 ⟨rfl, hi, S2, ws, ds, fps, rest, st2, hs2, hd2, hl, hfl, hin, hnd, hnew, el, ey, hn⟩
    by_cases hlt : i < xs.length
    · obtain ⟨hgo, hyl⟩ := w.go i xs[i] S2 H2 (List.getElem?_eq_getElem hlt) st2.ss st2.sub
      refine .inr ⟨hgo, LcT K mg n g c f (wipeD ρ vs) xs ys D0 S1 H1 (i + 1), fun H' z => ⟨xs.length - (i + 1), by omega, rfl, hlt, z⟩, fun x H3 y => ?_⟩
      obtain ⟨S3, s3, r3⟩ := hyl x H3 y
      rw [List.drop_eq_getElem_cons hlt] at el
      unfold lcGo at el
      cases eg1 : g xs[i] (wipeD ρ vs) with
      | ex c' fs => rw [eg1] at el; cases el
      | er => rw [eg1] at el; cases el
      | ok ρ1 =>
        rw [eg1] at el
        simp only at el
        have st3 := st2.trans s3
        obtain ⟨F, stF⟩ := (((hm.step s1).step st3).wipe vs).bare
        refine ⟨_, _, S3, F, wipeD ρ vs, xs[i], stF, r3, ?_⟩
        rw [eg1]
        intro σ4 S4 F4 H4 st4 s4 hfr
        refine ⟨wipe_eq (by rw [hfr.1, L2.wipe_length]) hfr.2 hts, S4, ρ1, st4.envM, ?_⟩
        cases ec : c ρ1 with
        | ex c' fs => rw [ec] at el; cases el
        | er => rw [ec] at el; cases el
        | ok b =>
          rw [ec] at el
          simp only at el
          intro S5 H5 s5
          have a5 := (s3.trans s4).trans s5
          cases b with
          | false =>
            rw [if_neg (by decide)] at el
            show LcT K mg n g c f (wipeD ρ vs) xs ys D0 S1 H1 (i + 1) H5
            exact ⟨S5, ws, ds, fps, rest, st2.trans a5, a5.out hs2 hd2, a5.hh _ _ hd2, hl, hfl, fun j w e f x y z => (hin j w e f x y z).step a5, hnd, hnew, el, ey, by omega⟩
          | true =>
            rw [if_pos rfl] at el
            show tE K mg EF m (mdT n) f σ4 H5 _
            refine ⟨S5, ρ1, (st4.envM).step s5, ?_⟩
            cases ef : f ρ1 with
            | ex c' fs => rw [ef] at el; cases el
            | er => rw [ef] at el; cases el
            | ok y' =>
              rw [ef] at el
              simp only at el
              intro v S6 H6 fp s6 o hfn hf
              have o := mdT_own.mp o
              have a6 := a5.trans s6
              cases er : lcGo g c f (wipeD ρ vs) (xs.drop (i + 1)) with
              | ex c' fs => rw [er] at el; cases el
              | er => rw [er] at el; cases el
              | ok rest' =>
                rw [er] at el
                cases el
                have old : ∀ a, a ∈ fps.flatten → ∃ o, H5 a = some o := fun a ha => by
                  obtain ⟨j, f', hj, hfj⟩ := mem_flat ha
                  have hjl := (List.getElem?_eq_some_iff.mp hj).1
                  obtain ⟨_, o', ho'⟩ := (hin j _ _ f' (List.getElem?_eq_getElem (by omega)) (List.getElem?_eq_getElem (by omega)) hj).out hfj
                  exact ⟨o', a5.hh _ _ ho'⟩
                have hDf : D0 ∉ fp := fun z => by
                  have := hf D0 z
                  rw [a5.hh _ _ hd2] at this
                  cases this
                have hDp : D0 ∉ fps.flatten := (List.nodup_cons.mp hnd).1
                refine ⟨ws, a6.hh _ _ hd2, by omega, S6, ws ++ [v], ds ++ [y'], fps ++ [fp], rest', (st2.trans a6).write (a6.out hs2 hd2) hD, a6.out hs2 hd2, ?_, by simp [hl], by simp [hfl], fun j w e f' x y z => ?_, ?_, fun q hq => ?_, er, by rw [ey]; simp, by simp; omega⟩
                · rw [upd_same]
                · by_cases hj : j < ds.length
                  · rw [List.getElem?_append_left (by omega)] at x y z
                    exact ((hin j w e f' x y z).step a6).agree fun a ha => by
                      rw [upd_ne fun zz => hDp (by rw [← zz]; exact flat_mem z ha)]
                  · have hjl := (List.getElem?_eq_some_iff.mp y).1
                    rw [List.length_append] at hjl
                    have : j = ds.length := by simp at hjl; omega
                    subst this
                    rw [List.getElem?_concat_length] at y
                    rw [← hl, List.getElem?_concat_length] at x
                    rw [← hfl, List.getElem?_concat_length] at z
                    cases x; cases y; cases z
                    exact o.agree fun a ha => by rw [upd_ne fun zz => hDf (by rw [← zz]; exact ha)]
                · rw [flat_snoc, List.nodup_cons]
                  rw [List.nodup_cons] at hnd
                  refine ⟨fun z => ?_, ?_⟩
                  · rcases List.mem_append.mp z with z | z
                    · exact hDp z
                    · exact hDf z
                  · rw [List.nodup_append]
                    refine ⟨hnd.2, hfn, fun a ha b hb z => ?_⟩
                    obtain ⟨o', ho'⟩ := old a ha
                    rw [z, hf b hb] at ho'
                    cases ho'
                · rw [flat_snoc] at hq
                  rcases List.mem_append.mp hq with z | z
                  · exact hnew q z
                  · exact (st2.trans a5).hh.free (hf q z)
    · have e : i = xs.length := by omega
      subst e
      rw [List.drop_length] at el
      cases el
      rw [List.append_nil] at ey
      subst ey
      refine .inl ⟨w.stop S2 H2 st2.ss st2.sub, k _ S2 H2 (D0 :: fps.flatten) st2 (mdT_own.mpr ⟨D0, ws, ys, fps, rfl, rfl, rfl, hs2, hd2, hl, hfl, hin⟩) hnd (fun a z => ?_)⟩
      rcases List.mem_cons.mp z with z | z
      · rw [z]; exact hD
      · exact hnew a z
end
end Da
namespace Da
open PySem PySem.Spec L2
section
variable {X : Cx} {E : WX} {L : Lp} {m : Mds} {ts : List Nat} {N0 ps0 : List Str} {sc0 : Scope} {elt tg iter e j e2 j2 : Expr} {ifs : List Expr} {scope : Scope} {pos p1 p2 p3 p4 : Pos} {it : Env → Res (List D)} {g : D → Env → Res Env} {c : Env → Res Bool} {f fj fj2 : Env → Res D} {x : Str}
theorem js_setLcT (n : Nat) (i : Nat) {md1 md2 : Md} {y : Str} {py spos : Pos} (Sc : FnScope N0 ps0 sc0) (own : List (Str × Nat)) (hi : JI X E m tg iter it)
    (hg : ∀ (s : Shared) (H : Hp) (C : Addr) (cl : List (Str × Addr)) (fp : List Addr), JG (X.blk s H scope (compEnvC scope cl C X.env) fp) m ts tg g) (ht : ∀ (s : Shared) (H : Hp) (C : Addr) (cl : List (Str × Addr)) (fp : List Addr), JTs (X.blk s H scope (compEnvC scope cl C X.env) fp) EF m ifs c) (he : ∀ (s : Shared) (H : Hp) (C : Addr) (cl : List (Str × Addr)) (fp : List Addr), JE (X.blk s H scope (compEnvC scope cl C X.env) fp) EF m md1 elt f) (h1 : md1 = mdT n := by rfl) (h2 : md2 = mdT (n + 1) := by rfl) (hl : i < m.length := by first | decide | simp) (hy : X.N[i]? = some y := by rfl) (hyl : X.env.scope.names.lookup y = some .local := by rfl)
    (hsw : swapsWith (.ListComp elt [⟨tg, iter, ifs, 0⟩] scope pos) (some (.Name y py)) spos.line X.env = pure true := by rfl) (hc : X.calm = true := by rfl) (hN0 : X.N = N0 := by rfl) (hsc : X.env.scope = sc0 := by rfl) (ok : blkC N0 sc0 scope own = true := by decide +kernel) (hts : ∀ t ∈ ts, t ∈ own.map (·.2) := by decide)
    (hs : ∀ x, foldedSetIterable iter X.env x = pure x := by intro _; rfl) : JS X E L m (m.set i md2) (.Assign [.Name y py] (.ListComp elt [⟨tg, iter, ifs, 0⟩] scope pos) spos) (fSet i (fLc (own.map (·.2)) it g c f)) := by
  subst h1 h2
  refine ⟨PSimp (ps_setLc (g := tGD X.K X.mg m ts g) (tt := tT X.K X.mg EF m c) (te := tE X.K X.mg EF m (mdT n) f) hc (by rw [hN0]; exact Sc.nd) hy hyl hsw hi.pi (blkOk_by (by rw [hN0, hsc]; exact ok)) (fun s H C cl fp => (hg s H C cl fp).pg) (fun s H C cl fp => (ht s H C cl fp).pt) (fun s H C cl fp => (he s H C cl fp).pe) hs) fun D σ H h => ?_⟩
  obtain ⟨S0, H0, ρ, ⟨S, Fp, st⟩, p⟩ := h
  refine lcT_ok hts ⟨S, ρ, st.envM, (lift_post st p).postM fun d v S1 H1 fp s1 o hn hf k => ?_⟩
  refine k _ _ (StF.stM ((st.step s1).set hl o hn (fun a ha => st.1.hh.free (hf a ha)) fun j e' hj ej a ha z => ?_))
  obtain ⟨w, _, o'⟩ := st.2.1.at_ j e' ej
  obtain ⟨_, u, hu⟩ := o'.out ha
  rw [hf a z] at hu
  cases hu
/-- [] as a tree of any depth -/
theorem je_lstT (n : Nat) {md : Md} (h : md = mdT (n + 1) := by rfl) : JE X E m md (.List [] pos) (fOn gLstD fA0) := by
  subst h
  refine ⟨PEimp (pe_lst pa_nil) fun σ H Q h => ?_⟩
  obtain ⟨S, ρ, hm, hp⟩ := h
  exact ⟨by simp, fun p hn => hp _ S _ [p] (Step.hid hm.1 hn) (mdT_own.mpr ⟨p, [], [], [], rfl, rfl, rfl, hm.1.free hn, upd_same, rfl, rfl, fun j w e f a => by simp at a⟩) (by simp) (fun a z => by
    have : a = p := by simpa using z
    rw [this]; exact hn)⟩
/-- new addresses that a tree takes in -/
theorem new_apart {K : PySem.W.Frag} {mg : Str → Option Value} {m : Mds} {S0 H0 S H : Hp} {σ : L2.St} {ρ : Env} {F : Nat → List Addr} {fp : List Addr} (st : StF K mg m S0 H0 S F σ ρ H) (hf : ∀ a, a ∈ fp → H a = none) {a : Addr} (ha : a ∈ fp) : H0 a = none ∧ ∀ j d, ρ[j]? = some (some d) → a ∉ F j :=
  ⟨st.1.hh.free (hf a ha), fun j d ej z => by
    obtain ⟨w, _, o⟩ := st.2.1.at_ j d ej
    obtain ⟨_, u, hu⟩ := o.out z
    rw [hf a ha] at hu
    cases hu⟩
theorem OwnTr.app {K : PySem.W.Frag} {mg : Str → Option Value} {S H : Hp} {n : Nat} {f fp : List Addr} {v w : V} {us : List D} {d : D} (h : OwnTr K mg S H (n + 1) f v (.lst us)) (nd : f.Nodup) (on : OwnTr K mg S H n fp w d) (hn : fp.Nodup) (hx : ∀ a, a ∈ fp → a ∉ f) :
    ∃ (q : Addr) (ws : List V), v = .ref q ∧ H q = some (.lst ws) ∧ ws.length = us.length ∧ q ∈ f ∧ ∃ f', OwnTr K mg S (upd H q (.lst (ws ++ [w]))) (n + 1) f' v (.lst (us ++ [d])) ∧ f'.Nodup ∧ ∀ a, a ∈ f' → a ∈ f ∨ a ∈ fp := by
  obtain ⟨q, ws, ds, fps, eq, eds, ef, sq, hq, hl, hfl, hin⟩ := h
  cases eq; cases eds
  have hqf : q ∈ f := by rw [ef]; exact List.mem_cons_self
  have hqn : q ∉ fp := fun z => hx q z hqf
  have nd2 := nd
  rw [ef, List.nodup_cons] at nd2
  have q0 : ∀ a, a ∈ fps.flatten → a ≠ q := fun a ha z => nd2.1 (by rw [← z]; exact ha)
  refine ⟨q, ws, rfl, hq, hl, hqf, q :: (fps ++ [fp]).flatten, ⟨q, ws ++ [w], us ++ [d], fps ++ [fp], rfl, rfl, rfl, sq, upd_same, by simp [hl], by simp [hfl], fun j w' e' f' a b c => ?_⟩, ?_, fun a ha => ?_⟩
  · by_cases hj : j < us.length
    · rw [List.getElem?_append_left (by omega)] at a b c
      exact (hin j w' e' f' a b c).agree fun z hz => upd_ne (q0 z (flat_mem c hz))
    · have hjl := (List.getElem?_eq_some_iff.mp b).1
      rw [List.length_append] at hjl
      have : j = us.length := by simp at hjl; omega
      subst this
      rw [List.getElem?_concat_length] at b
      rw [← hl, List.getElem?_concat_length] at a
      rw [← hfl, List.getElem?_concat_length] at c
      cases a; cases b; cases c
      exact on.agree fun z hz => upd_ne fun zz => hqn (by rw [← zz]; exact hz)
  · rw [flat_snoc, List.nodup_cons]
    refine ⟨fun z => ?_, ?_⟩
    · rcases List.mem_append.mp z with z | z
      · exact nd2.1 z
      · exact hqn z
    · rw [List.nodup_append]
      exact ⟨nd2.2, hn, fun a ha b hb z => hx b hb (by rw [ef, ← z]; exact List.mem_cons_of_mem _ ha)⟩
  · rw [flat_snoc] at ha
    rcases List.mem_cons.mp ha with rfl | ha
    · exact .inl hqf
    · rcases List.mem_append.mp ha with z | z
      · exact .inl (by rw [ef]; exact List.mem_cons_of_mem _ z)
      · exact .inr z
/-- a list within the tree of slot i is changed in its place -/
theorem inner_change {K : PySem.W.Frag} {mg : Str → Option Value} {m : Mds} {S0 H0 S H H' : Hp} {σ : L2.St} {ρ : Env} {F : Nat → List Addr} {n i k : Nat} {p : Addr} {vs : List V} {xs : List D} {fps : List (List Addr)} {w : V} {d' : D} {f f' fp : List Addr}
    (st : StF K mg m S0 H0 S F σ ρ H) (hmd : IsTr (n + 1) (mdAt m i)) (exs : ρ[i]? = some (some (.lst xs))) (e1 : σ[i]? = some (some (.ref p))) (oa : OwnAt K mg S H (F i) (.ref p) (.lst xs) (mdAt m i)) (ef : F i = p :: fps.flatten) (sp : S p = none) (hp : H p = some (.lst vs)) (hl : vs.length = xs.length) (hfl : fps.length = xs.length)
    (hin : ∀ (j : Nat) (w : V) (e : D) (f : List Addr), vs[j]? = some w → xs[j]? = some e → fps[j]? = some f → OwnTr K mg S H n f w e) (hw : vs[k]? = some w) (hf : fps[k]? = some f) (hch : ∀ a, a ∉ f → H' a = H a)
    (on : OwnTr K mg S H' n f' w d') (hn : f'.Nodup) (hf' : ∀ a, a ∈ f' → a ∈ f ∨ a ∈ fp) (hnew : ∀ a, a ∈ fp → H0 a = none ∧ ∀ j d, ρ[j]? = some (some d) → a ∉ F j) :
    StM K mg m S0 H0 σ (ρ.set i (some (.lst (xs.set k d')))) H' := by
  have nd := st.2.1.nd i _ exs
  have nd2 := nd
  rw [ef, List.nodup_cons, nd_split hf] at nd2
  have hk : k < xs.length := by have := (List.getElem?_eq_some_iff.mp hw).1; omega
  have ff : ∀ a, a ∈ f → a ∈ fps.flatten := fun a ha => flat_mem hf ha
  have hpf : p ∉ f := fun z => nd2.1 (ff p z)
  have up : ∀ a, a ∈ (fps.set k f').flatten → a ∈ f' ∨ a ∈ (fps.set k []).flatten := fun a ha => by
    rcases (set_flat hf a).mp ha with z | z
    · exact .inl z
    · exact .inr ((set_flat hf a).mpr (.inr z))
  have dn : ∀ a, a ∈ (fps.set k []).flatten → a ∈ fps.flatten := fun a ha => by
    rcases (set_flat hf a).mp ha with z | ⟨j, h, _, z1, z2⟩
    · cases z
    · exact flat_mem z1 z2
  have ap : ∀ a, a ∈ f' → a ∉ (fps.set k []).flatten := fun a ha hb => by
    rcases hf' a ha with z | z
    · exact nd2.2.2.2 a z hb
    · exact (hnew a z).2 i _ exs (by rw [ef]; exact List.mem_cons_of_mem _ (dn a hb))
  have evs : vs.set k w = vs := by
    refine List.ext_getElem? fun j => ?_
    rw [List.getElem?_set]
    split
    · rename_i hj; subst hj; rw [if_pos (by omega)]; exact hw.symm
    · rfl
  have ow : OwnAt K mg S H' (p :: (fps.set k f').flatten) (.ref p) (.lst (xs.set k d')) (mdAt m i) := by
    refine hmd.back oa (OwnTr.setT (f := []) (w := w) sp hl hfl (fun j w' e g hj a b c => (hin j w' e g a b c).agree fun z hz => hch z fun zz => ?_) (by rw [evs, hch p hpf]; exact hp) on hk)
    exact nd2.2.2.2 z zz ((set_flat hf z).mpr (.inr ⟨j, g, hj, c, hz⟩))
  refine StF.stM (st.put exs e1 (fun a ha => hch a fun z => ha (by rw [ef]; exact List.mem_cons_of_mem _ (ff a z))) ow ?_ fun a ha => ?_)
  · rw [List.nodup_cons]
    refine ⟨fun z => ?_, ?_⟩
    · rcases up p z with z | z
      · rcases hf' p z with w | w
        · exact hpf w
        · exact (hnew p w).2 i _ exs (by rw [ef]; exact List.mem_cons_self)
      · exact nd2.1 (dn p z)
    · have fk2 : (fps.set k f')[k]? = some f' := List.getElem?_set_self (by omega)
      rw [nd_split fk2, List.set_set]
      exact ⟨hn, nd2.2.2.1, ap⟩
  · rcases List.mem_cons.mp ha with rfl | ha
    · exact .inl (by rw [ef]; exact List.mem_cons_self)
    · rcases up a ha with z | z
      · rcases hf' a z with w | w
        · exact .inl (by rw [ef]; exact List.mem_cons_of_mem _ (ff a w))
        · exact .inr ⟨(hnew a w).1, fun j' d' _ ej => (hnew a w).2 j' d' ej⟩
      · exact .inl (by rw [ef]; exact List.mem_cons_of_mem _ (dn a z))
theorem js_app2T (n i : Nat) {md1 : Md} (hj : JE X E m .sh j fj) (he : JE X E m md1 e f) (h1 : md1 = mdT n := by rfl) (hmd : IsTr (n + 2) (mdAt m i) := by first | exact .inl rfl | exact .inr ⟨_, rfl⟩) (hN : X.N[i]? = some x := by rfl) (hv : Vis X.env.scope x := by first | exact Or.inl rfl | exact Or.inr (Or.inl rfl) | exact Or.inr (Or.inr rfl))
    (hd : (x == ("__debug__" : Str)) = false := by decide) (hcd : (x == ("__classdict__" : Str)) = false := by decide)
    (hs : swapsWith (.Call (.Attribute (.Subscript (.Name x p1) j p4) "append" p2) [e] [] p3) none pos.line X.env = pure false := by rfl) (hsl : PlainIx j := by intro _ _; rfl)
    (hpe : ∀ {to te : TE}, PE X (.Subscript (.Name x p1) j p4) to → PE X e te → PE X (.Call (.Attribute (.Subscript (.Name x p1) j p4) "append" p2) [e] [] p3) (tBM X.K "list" rAppend to (tCons te tNil)) := by
      intro to te ho he
      exact pe_bm PySem.F.plainAttrs_list PySem.F.slot_list_append PySem.F.type_list_append mt_append ho (pa_cons he pa_nil)) :
    JS X E L m m (.Expr (.Call (.Attribute (.Subscript (.Name x p1) j p4) "append" p2) [e] [] p3) pos) (fApp2 i fj f) := by
  subst h1
  refine ⟨PSimp (ps_expr (hpe (pe_ix ix_seq (pe_var hN hv hd hcd) hj.pe hsl) he.pe) hs) fun Dn σ H h => ?_⟩
  obtain ⟨S0, H0, ρ, ⟨S, Fp, st⟩, p⟩ := h
  unfold fApp2 at p
  split at p
  · rename_i xs exs
    obtain ⟨v0, e0, _, ot, _⟩ := st.ownT hmd exs
    obtain ⟨pa, vs, ds, fps, rfl, eds, _⟩ := id ot
    refine ⟨_, e0, S, ρ, st.envM, (lift_post st p).post fun dy vy S1 H1 s1 ry k1 => ?_⟩
    cases dy with
    | int z =>
      cases ry
      have k1 : SPost X.K X.mg E L S0 H0 m (match ixN xs.length z with
        | some k => (match xs[k]? with
          | some (.lst us) => lift (f ρ) ρ fun d => if szOk (us.length + 1) = true then .ok (.nx (ρ.set i (some (.lst (xs.set k (.lst (us ++ [d]))))))) else .er
          | _ => .er)
        | none => .er) Dn := k1
      cases ek : ixN xs.length z with
      | none => rw [ek] at k1; exact k1.elim
      | some k =>
        rw [ek] at k1
        simp only at k1
        split at k1
        · rename_i us eu
          have st1 := st.step s1
          obtain ⟨v1, e1', oa, ot, nd⟩ := st1.ownT hmd exs
          rw [e0] at e1'
          cases e1'
          obtain ⟨pa', vs, ds, fps, eq, eds, ef, sp, hp, hl, hfl, hin⟩ := id ot
          cases eq; cases eds
          have hkl := (ixN_seq ek).2.1
          have fk : fps[k]? = some (fps[k]'(by omega)) := List.getElem?_eq_getElem (by omega)
          have vk : vs[k]? = some (vs[k]'(by omega)) := List.getElem?_eq_getElem (by omega)
          have oc := hin k _ _ _ vk eu fk
          obtain ⟨q, ws, _, _, eqq, _, _, _, hqq, hlq, _⟩ := id oc
          have hat : L2.atI vs z = some (V.ref q) := by
            unfold L2.atI
            rw [hl, ek]
            show vs[k]? = _
            rw [vk, eqq]
          refine .inl ⟨pa, vs, z, V.ref q, rfl, rfl, .inl (.inl hp), hat, ?_⟩
          refine ⟨.inl ⟨rfl, ws, .inl (.inl hqq)⟩, S1, ρ, st1.envM, (lift_post st1 k1).postM fun d v S2 H2 fp s2 o hn hf k2 => ?_⟩
          split at k2
          · rename_i hz
            have st2 := st1.step s2
            have on := mdT_own.mp o
            have na : ∀ a, a ∈ fp → H0 a = none ∧ ∀ j d, ρ[j]? = some (some d) → a ∉ Fp j := fun a ha => new_apart st1 hf ha
            have ffi : ∀ a, a ∈ (fps[k]'(by omega)) → a ∈ Fp i := fun a ha => by rw [ef]; exact List.mem_cons_of_mem _ (flat_mem fk ha)
            have nd2 := nd
            rw [ef, List.nodup_cons, nd_split fk] at nd2
            obtain ⟨q', ws', eq', hq', hl', hqf, f', ot', hn', hf'⟩ := (oc.step s2).app nd2.2.1 on hn fun a ha hb => (na a ha).2 i _ exs (ffi a hb)
            obtain rfl : q' = q := by rw [eqq] at eq'; injection eq' with z; exact z.symm
            obtain ⟨v2, e2', oa2, ot2, _⟩ := st2.ownT hmd exs
            rw [e0] at e2'
            cases e2'
            refine ⟨q', ws', v, rfl, rfl, hq', by rw [hl']; exact szOk_lt hz, k2 σ _ ?_⟩
            exact inner_change (n := n + 1) st2 hmd exs e0 oa2 ef (s2.out sp hp) (s2.hh _ _ hp) hl hfl (fun j w e f a b c => (hin j w e f a b c).step s2) vk fk (fun a ha => upd_ne fun z => ha (by rw [z]; exact hqf)) ot' hn' hf' na
          · exact k2.elim
        · exact k1.elim
    | _ => exact k1.elim
  · exact p.elim
end
end Da
namespace Da
open PySem PySem.Spec L2
end Da
namespace Da
open PySem PySem.Spec L2
end Da
namespace Da
open PySem PySem.Spec L2
section
variable {K : PySem.W.Frag} {mg : Str → Option Value} {m : Mds} {S0 H0 S S' H H' : Hp} {σ : L2.St} {ρ : Env} {F : Nat → List Addr} {D0 : Addr} {o : HO}
theorem StF.wipe (st : StF K mg m S0 H0 S F σ ρ H) (vs : List Nat) : StF K mg m S0 H0 S F (L2.wipe σ vs) (wipeD ρ vs) H := by
  obtain ⟨s, en, nw⟩ := st
  refine ⟨s, en.wipe vs, fun i d ei => nw i d ?_⟩
  induction vs with
  | nil => exact ei
  | cons v vs ih =>
    unfold wipeD at ei
    rw [List.getElem?_set] at ei
    split at ei
    · split at ei <;> cases ei
    · exact ih ei
end
end Da
namespace Da
open PySem PySem.Spec L2
/-- the different ones -/
def dedupI : List Int → List Int
  | [] => []
  | x :: xs => if x ∈ xs then dedupI xs else x :: dedupI xs
theorem mem_dedupI {k : Int} : ∀ {xs : List Int}, k ∈ dedupI xs ↔ k ∈ xs
  | [] => Iff.rfl
  | x :: xs => by
    have ih := mem_dedupI (k := k) (xs := xs)
    unfold dedupI
    split
    · rename_i h
      rw [ih, List.mem_cons]
      exact ⟨.inr, fun z => z.elim (fun e => by rw [e]; exact h) id⟩
    · rw [List.mem_cons, List.mem_cons, ih]
theorem nodup_dedupI : ∀ {xs : List Int}, (dedupI xs).Nodup
  | [] => List.nodup_nil
  | x :: xs => by
    unfold dedupI
    split
    · exact nodup_dedupI
    · rename_i h
      exact List.nodup_cons.mpr ⟨fun z => h (mem_dedupI.mp z), nodup_dedupI⟩
theorem dedupI_le : ∀ {xs : List Int}, (dedupI xs).length ≤ xs.length
  | [] => Nat.le_refl _
  | x :: xs => by
    have := dedupI_le (xs := xs)
    unfold dedupI
    split
    · rw [List.length_cons]; omega
    · rw [List.length_cons, List.length_cons]; omega
theorem dedupI_nodup : ∀ {xs : List Int}, (dedupI xs).length = xs.length ↔ xs.Nodup
  | [] => by simp [dedupI]
  | x :: xs => by
    have ih := dedupI_nodup (xs := xs)
    have le := dedupI_le (xs := xs)
    unfold dedupI
    rw [List.nodup_cons]
    split
    · rename_i h
      rw [List.length_cons]
      exact ⟨fun z => by omega, fun z => absurd h z.1⟩
    · rename_i h
      rw [List.length_cons, List.length_cons]
      exact ⟨fun z => ⟨h, ih.mp (by omega)⟩, fun z => by rw [ih.mpr z.2]⟩
theorem same_len {as bs : List Int} (ha : as.Nodup) (hb : bs.Nodup) (h : ∀ k, k ∈ as ↔ k ∈ bs) : as.length = bs.length :=
  Nat.le_antisymm (ha.length_le_of_subset fun k hk => (h k).mp hk) (hb.length_le_of_subset fun k hk => (h k).mpr hk)
def lenSetOf (xs : List D) : Res D := match intsD xs with
    | some ns => if ns.length ≤ 1000 then .ok (.int (dedupI ns).length) else .er
    | none => .er
def dLenSet : D → Res D
  | .tup xs => lenSetOf xs
  | .lst xs => lenSetOf xs
  | _ => .er
/-- what a set from a list holds -/
theorem firstMet_set (val : Nat → Int) : ∀ i, (PyProof.Rows.firstMet val i).Nodup ∧ ∀ k, k ∈ PyProof.Rows.firstMet val i ↔ ∃ j, j < i ∧ val j = k
  | 0 => ⟨by rw [PyProof.Rows.firstMet_zero]; exact List.nodup_nil, fun k => by rw [PyProof.Rows.firstMet_zero]; exact ⟨fun h => (by cases h), fun ⟨j, h, _⟩ => (by omega)⟩⟩
  | i + 1 => by
    obtain ⟨nd, mm⟩ := firstMet_set val i
    rw [PyProof.Rows.firstMet_succ]
    have key : ∀ k, (∃ j, j < i + 1 ∧ val j = k) ↔ (∃ j, j < i ∧ val j = k) ∨ val i = k := fun k => by
      constructor
      · rintro ⟨j, h, e⟩
        by_cases hj : j = i
        · subst hj; exact .inr e
        · exact .inl ⟨j, by omega, e⟩
      · rintro (⟨j, h, e⟩ | e)
        · exact ⟨j, by omega, e⟩
        · exact ⟨i, by omega, e⟩
    unfold PyProof.Rows.step_dedup
    split
    · rename_i h
      obtain ⟨y, hy, e⟩ := List.any_eq_true.mp h
      have e : y = val i := by simpa using e
      subst e
      refine ⟨nd, fun k => ?_⟩
      rw [key, mm k]
      exact ⟨.inl, fun z => z.elim id fun e => by rw [← e]; exact (mm _).mp hy⟩
    · rename_i h
      have hn : val i ∉ PyProof.Rows.firstMet val i := fun z => h (List.any_eq_true.mpr ⟨_, z, by simp⟩)
      refine ⟨List.nodup_append.mpr ⟨nd, by simp, fun a ha b hb => ?_⟩, fun k => ?_⟩
      · rw [List.mem_singleton] at hb
        subst hb
        exact fun e => hn (e ▸ ha)
      · rw [List.mem_append, List.mem_singleton, key, mm k]
        exact ⟨fun z => z.elim .inl fun e => .inr e.symm, fun z => z.elim .inl fun e => .inr e.symm⟩
theorem intsD_some : ∀ {xs : List D} {ns : List Int}, intsD xs = some ns → xs = ns.map D.int
  | [], ns, e => by cases e; rfl
  | x :: xs, ns, e => by
    unfold intsD at e
    cases x with
    | int i =>
      simp only at e
      cases e2 : intsD xs with
      | none => rw [e2] at e; cases e
      | some r =>
        rw [e2] at e
        cases e
        rw [intsD_some e2]
        rfl
    | _ => simp only at e; cases e
section
variable {X : Cx} {E : WX} {m : Mds} {a : Expr} {fa : Env → Res D} {pos p p2 q : Pos}
def tLenSetT (K : PySem.W.Frag) (ta : TE) : TE := fun σ H Q => ta σ H fun x H1 => ∃ (l : Addr) (ns : List Int), x = V.ref l ∧ (SqT K H1 l (ns.map V.int) ∨ SqL K H1 l (ns.map V.int)) ∧ ns.length ≤ 1000 ∧ Q (.int (dedupI ns).length) H1
theorem pe_lenSetT {ta : TE} (hc : X.calm = true) (hg : Gl X "len") (hm : X.mg "len" = none) (hg2 : Gl X "set") (hm2 : X.mg "set" = none) (ha : PE X a ta)
    (na : starEach [a] X.env = (false, eval a X.env) :: starEach [] X.env := by rfl) : PE X (.Call (.Name "len" p) [.Call (.Name "set" p2) [a] [] q] [] pos) (tLenSetT X.K ta) := by
  refine ⟨fun pins s σ H Q I h => ?_⟩
  refine PyProof.Rows.Call_ (ld_blt I hg hm PySem.boot_len ?_)
  refine PyProof.Rows.callWith_builtin1 (PyProof.Rows.args_cons ?_ rfl) rfl rfl
  refine PyProof.Rows.Call_ (ld_blt I hg2 hm2 PyProof.Rows.boot_set ?_)
  refine PyProof.Rows.callWith_type1 (PyProof.Rows.args_cons (thn (ha.run pins s σ H _ I h) fun v s1 ⟨x, H1, I1, r1, q1⟩ => PyProof.Rows.args_nil ?_) na) na rfl
  obtain ⟨l, ns, rfl, hq, h1, q1⟩ := q1
  cases r1
  rcases hq with hq | hq
  case inr =>
    obtain ⟨its, r, pl, hz⟩ := I1.list hq
    have ri := r.ints
    have hil : its.length = ns.length := by simpa using ri.length
    have le := dedupI_le (xs := ns)
    obtain ⟨o, no, ho, hoc, _, hod⟩ := pl
    refine PySem.call_set_list (ns := ns) (I1.ok.hd hc) ⟨o, ho, hoc, no, hod⟩ (by simpa using ri) (by rw [List.size_toArray]; unfold scanBound; omega) fun h' tk hS hk => ?_
    refine PyProof.Rows.args_nil ?_
    obtain ⟨o, es, ep, t, ho, hex, hd, _, _, _, hf, hn⟩ := hS
    have hlen : es.size = (dedupI ns).length := by
      rw [hn]
      obtain ⟨nd, mm⟩ := firstMet_set (fun i => ns.getD i 0) its.toArray.size
      refine same_len nd nodup_dedupI fun k => ?_
      rw [mm k, mem_dedupI, List.size_toArray, hil, List.mem_iff_getElem?]
      exact ⟨fun ⟨j, h, e⟩ => ⟨j, by rw [List.getElem?_eq_getElem h, ← e, List.getD_eq_getElem?_getD, List.getElem?_eq_getElem h]; rfl⟩, fun ⟨j, e⟩ => ⟨j, (List.getElem?_eq_some_iff.mp e).1, by rw [List.getD_eq_getElem?_getD, e]; rfl⟩⟩
    have I2 : Inv X pins σ H1 { s1 with heap := h', toks := tk } := I1.kept fun b o e => hk b o (Heap.lt_size e) e
    refine call_len_set ho hex hd hf (by rw [hlen] <;> omega) ⟨.int (dedupI ns).length, H1, I2.tok _, ⟨_, by rw [hlen]⟩, q1⟩
  obtain ⟨its, r, pl, hz⟩ := I1.tuple hq
  refine call_set_tupI (ns := ns) (I1.ok.hd hc) pl (by simpa using r.ints) (by unfold scanBound; omega) fun h' tk c hS _ hk => ?_
  refine PyProof.Rows.args_nil ?_
  obtain ⟨o, es, ep, t, ho, hex, hd, _, hnd, hmem, _, hf, hn, _⟩ := hS
  have hlen : es.size = (dedupI ns).length := by
    rw [← Array.length_toList, ← List.length_map (f := keyOf)]
    refine same_len hnd nodup_dedupI fun k => ?_
    rw [mem_dedupI, ← hmem k]
    exact decide_eq_true_iff
  have I2 : Inv X pins σ H1 { s1 with heap := h', toks := tk } := I1.kept fun b o e => hk b o e
  have le := dedupI_le (xs := ns)
  refine call_len_set ho hex hd hf (by rw [hlen] <;> omega) ⟨.int (dedupI ns).length, H1, I2.tok _, ⟨_, by rw [hlen]⟩, q1⟩
theorem je_lenSet (hm : X.mg "len" = none) (hm2 : X.mg "set" = none) (ha : JE X E m .sh a fa) (hc : X.calm = true := by rfl) (hg : Gl X "len" := by rfl) (hg2 : Gl X "set" := by rfl)
    (na : starEach [a] X.env = (false, eval a X.env) :: starEach [] X.env := by rfl) : JE X E m .sh (.Call (.Name "len" p) [.Call (.Name "set" p2) [a] [] q] [] pos) (f1 dLenSet fa) := by
  refine ⟨PEimp (pe_lenSetT hc hg hm hg2 hm2 ha.pe na) fun σ H Q h => ?_⟩
  obtain ⟨S, ρ, hs, hp⟩ := h
  refine ⟨S, ρ, hs, (Post.bind hp).post fun d v S1 H1 s1 r k => ?_⟩
  cases d with
  | tup xs =>
    obtain ⟨l, vs, rfl, hl, rv⟩ := r.of_tup
    unfold dLenSet lenSetOf at k
    simp only at k
    split at k
    · rename_i ns ens
      have := intsD_some ens
      subst this
      rw [rv.ints] at hl
      split at k
      · rename_i hz
        exact ⟨l, ns, rfl, .inl (same_t s1.sub hl), hz, k.val s1.sub (.int _)⟩
      · exact k.elim
    · exact k.elim
  | lst xs =>
    obtain ⟨l, vs, rfl, hl, rv⟩ := r.of_lst
    unfold dLenSet lenSetOf at k
    simp only at k
    split at k
    · rename_i ns ens
      have := intsD_some ens
      subst this
      rw [rv.ints] at hl
      split at k
      · rename_i hz
        exact ⟨l, ns, rfl, .inr (.inl (.inl (s1.sub _ _ hl))), hz, k.val s1.sub (.int _)⟩
      · exact k.elim
    · exact k.elim
  | _ => exact k.elim
end
end Da
namespace Da
open PySem PySem.Spec L2
def keysD : List D → Option (List Key)
  | [] => some []
  | d :: ds => match keyD d, keysD ds with
    | some k, some ks => some (k :: ks)
    | _, _ => none
def keyT : D → Option (List Key)
  | .tup ds => keysD ds
  | _ => none
def lookT : List (List Key) → List D → List Key → Option D
  | k' :: ks, d :: ds, k => if k' = k then some d else lookT ks ds k
  | _, _, _ => none
def putKsT (ks : List (List Key)) (k : List Key) : List (List Key) := if (ks.any fun j => decide (j = k)) = true then ks else ks ++ [k]
def putVsT (ks : List (List Key)) (ds : List D) (k : List Key) (d : D) : List D := if (ks.any fun j => decide (j = k)) = true then (ks.zip ds).map (fun p => if p.1 = k then d else p.2) else ds ++ [d]
section
variable {K : PySem.W.Frag} {mg : Str → Option Value} {S H : Hp}
theorem keysD_ok : ∀ {ds : List D} {vs : List V} {ks : List Key}, RepL K mg S vs ds → keysD ds = some ks → vs = ks.map kV
  | [], vs, ks, r, e => by
    cases e
    have := r.len
    exact List.eq_nil_of_length_eq_zero this
  | d :: ds, [], ks, r, e => by have := r.len; simp at this
  | d :: ds, v :: vs, ks, r, e => by
    unfold keysD at e
    cases e1 : keyD d with
    | none => rw [e1] at e; cases e
    | some k =>
      cases e2 : keysD ds with
      | none => rw [e1, e2] at e; cases e
      | some kr =>
        rw [e1, e2] at e
        cases e
        rw [List.map_cons, keyD_ok r.head e1, keysD_ok r.tail e2]
theorem keyT_ok {v : V} {d : D} {k : List Key} (r : Rep K mg S v d) (h : keyT d = some k) : ∃ b, v = .ref b ∧ S b = some (.tup (k.map kV)) := by
  cases d with
  | tup ds =>
    obtain ⟨a, vs, rfl, ha, rv⟩ := r.of_tupS
    exact ⟨a, rfl, by rw [ha, keysD_ok rv h]⟩
  | _ => cases h
theorem Rep.of_dit {v : V} {ks : List (List Key)} {ds : List D} (h : Rep K mg S v (.dit ks ds)) : ∃ a kvs, v = .ref a ∧ S a = some (.dT kvs) ∧ ks = kvs.map (·.1) ∧ RepL K mg S (kvs.map (·.2)) ds := by
  cases h with
  | dit h hl hi =>
    refine ⟨_, _, rfl, h, rfl, by rw [List.length_map]; exact hl, fun i v d a b => ?_⟩
    rw [List.getElem?_map] at a
    cases e : (_ : List (List Key × V))[i]? with
    | none => rw [e] at a; cases a
    | some p => rw [e] at a; cases a; exact hi i p d e b
theorem lookT_ok : ∀ {kvs : List (List Key × V)} {ds : List D} {k : List Key}, RepL K mg S (kvs.map (·.2)) ds → (lookT (kvs.map (·.1)) ds k = none ∧ valV kvs k = none) ∨ ∃ d v, lookT (kvs.map (·.1)) ds k = some d ∧ valV kvs k = some v ∧ Rep K mg S v d
  | [], ds, k, r => .inl ⟨by cases ds <;> rfl, rfl⟩
  | p :: kvs, [], k, r => by have := r.len; simp at this
  | p :: kvs, d :: ds, k, r => by
    rw [List.map_cons] at r
    by_cases e : p.1 = k
    · refine .inr ⟨d, p.2, ?_, valV_pos e, r.head⟩
      show (if p.1 = k then some d else _) = _
      rw [if_pos e]
    · have ih := lookT_ok (k := k) r.tail
      have q : lookT ((p :: kvs).map (·.1)) (d :: ds) k = lookT (kvs.map (·.1)) ds k := by
        show (if p.1 = k then some d else _) = _
        rw [if_neg e]
      rw [q, valV_neg e]
      exact ih
theorem putT_ok {kvs : List (List Key × V)} {ds : List D} {k : List Key} {v : V} {d : D} (r : RepL K mg S (kvs.map (·.2)) ds) (h : Rep K mg S v d) : (putK kvs k v).map (·.1) = putKsT (kvs.map (·.1)) k ∧ RepL K mg S ((putK kvs k v).map (·.2)) (putVsT (kvs.map (·.1)) ds k d) := by
  have ha : ((kvs.map (·.1)).any fun j => decide (j = k)) = kvs.any fun kv => decide (kv.1 = k) := by rw [List.any_map]; rfl
  unfold putK putKsT putVsT
  rw [ha]
  by_cases hk : (kvs.any fun kv => decide (kv.1 = k)) = true
  · rw [if_pos hk, if_pos hk, if_pos hk]
    refine ⟨?_, ?_⟩
    · rw [List.map_map]
      refine List.map_congr_left fun p _ => ?_
      show (if p.1 = k then (p.1, v) else p).1 = p.1
      split <;> rfl
    · have hl := r.len
      rw [List.length_map] at hl
      refine ⟨by simp [hl], fun i w e a b => ?_⟩
      rw [List.getElem?_map, List.getElem?_map] at a
      rw [List.getElem?_map] at b
      cases ek : kvs[i]? with
      | none => rw [ek] at a; cases a
      | some p =>
        rw [ek] at a
        cases ez : ((kvs.map (·.1)).zip ds)[i]? with
        | none => rw [ez] at b; cases b
        | some q =>
          rw [ez] at b
          rw [List.getElem?_zip_eq_some] at ez
          obtain ⟨z1, z2⟩ := ez
          rw [List.getElem?_map, ek] at z1
          have z1 : p.1 = q.1 := by injection z1
          have a : (if p.1 = k then (p.1, v) else p).2 = w := by injection a
          have b : (if q.1 = k then d else q.2) = e := by injection b
          rw [← a, ← b, ← z1]
          split
          · exact h
          · exact r.at_ i p.2 q.2 (by rw [List.getElem?_map, ek]; rfl) z2
  · rw [if_neg hk, if_neg hk, if_neg hk]
    refine ⟨by rw [List.map_append]; rfl, ?_⟩
    rw [List.map_append]
    exact r.snoc h
end
def dGetT : D → D → Res D := fun x y => match x, keyT y with
  | .dit ks ds, some k => (match lookT ks ds k with
    | some d => .ok d
    | none => .er)
  | _, _ => .er
def dHasT (neg : Bool) : D → D → Res D := fun y x => match x, keyT y with
  | .dit ks ds, some k => .ok (.bl ((lookT ks ds k).isSome != neg))
  | _, _ => .er
section
variable {X : Cx} {E : WX} {L : Lp} {m : Mds} {e j a b : Expr} {f fj fa fb : Env → Res D} {x : Str} {pos p1 p2 : Pos} {k : Nat}
theorem opd_dhasT {K : PySem.W.Frag} {mg : Str → Option Value} {neg : Bool} : OpD K mg .sh (rDIn neg) (dHasT neg) := by
  intro E S H x y dx dy Q hs rx ry h
  cases dy with
  | dit ks ds =>
    unfold dHasT at h
    split at h
    · rename_i ks' ds' k e1 e2
      cases e1
      obtain ⟨a, kvs, rfl, ha, rfl, rv⟩ := ry.of_dit
      obtain ⟨b, rfl, hb⟩ := keyT_ok rx e2
      refine ⟨a, _, rfl, DGet.t (hs _ _ ha) (hs _ _ hb), ?_⟩
      have h := Post.val h hs (.bl _)
      rcases lookT_ok (k := k) rv with ⟨e3, e4⟩ | ⟨d, w, e3, e4, _⟩
      · rw [e3] at h; rw [e4]; exact h
      · rw [e3] at h; rw [e4]; exact h
    · exact h.elim
  | _ => exact h.elim
theorem opd_dgetT {K : PySem.W.Frag} {mg : Str → Option Value} : OpD K mg .sh rDIx dGetT := by
  intro E S H x y dx dy Q hs rx ry h
  cases dx with
  | dit ks ds =>
    unfold dGetT at h
    split at h
    · rename_i ks' ds' k e1 e2
      cases e1
      obtain ⟨a, kvs, rfl, ha, rfl, rv⟩ := rx.of_dit
      obtain ⟨b, rfl, hb⟩ := keyT_ok ry e2
      split at h
      · rename_i d ed
        rcases lookT_ok (k := k) rv with ⟨e3, e4⟩ | ⟨d', w, e3, e4, rw'⟩
        · rw [e3] at ed; cases ed
        · rw [e3] at ed
          cases ed
          exact ⟨a, w, rfl, by rw [← e4]; exact DGet.t (hs _ _ ha) (hs _ _ hb), Post.val h hs rw'⟩
      · exact h.elim
    · exact h.elim
  | _ => exact h.elim
theorem je_dgetT (hr : RmU X.A) (ha : JE X E m .sh a fa) (hb : JE X E m .sh b fb) (hs : NoSl b := by intro _ _; rfl) : JE X E m .sh (.Subscript a b pos) (f2 dGetT fa fb) := ⟨PEimp (pe_dget (by unfold RmU at hr; omega) ha.pe hb.pe hs) fun σ H Q h => two opd_dgetT h⟩
theorem je_dnewT : JE X E m .dt (.Dict [] [] pos) (fC (.dit [] [])) := ⟨PEimp pe_dnewT fun σ H Q h => by
  obtain ⟨S, ρ, hm, hp⟩ := h
  intro p hn
  exact hp _ S _ [p] (Step.hid hm.1 hn) ⟨p, [], [], rfl, rfl, rfl, hm.1.free hn, upd_same, .nil⟩ (by simp) (fun a z => by
    have : a = p := by simpa using z
    rw [this]; exact hn)⟩
/-- x[j] = e of an own dict -/
def fPutT (i : Nat) (fe fj : Env → Res D) : FS := fun ρ => match ρ[i]? with
  | some (some (.dit ks ds)) => lift (fe ρ) ρ fun d => lift (fj ρ) ρ fun y => match keyT y with
    | some k => if szOk (ks.length + 1) = true then .ok (.nx (ρ.set i (some (.dit (putKsT ks k) (putVsT ks ds k d))))) else .er
    | none => .er
  | _ => .er
theorem js_dputT (i : Nat) (hr : RmU X.A) (he : JE X E m .sh e f) (hj : JE X E m .sh j fj) (hmd : mdAt m i = .dt := by rfl) (hN : X.N[i]? = some x := by rfl) (hv : Vis X.env.scope x := by first | exact Or.inl rfl | exact Or.inr (Or.inl rfl) | exact Or.inr (Or.inr rfl))
    (hd : (x == ("__debug__" : Str)) = false := by decide) (hcd : (x == ("__classdict__" : Str)) = false := by decide) (hs : swapsWith e (some (.Subscript (.Name x p1) j p2)) pos.line X.env = pure false := by rfl) :
    JS X E L m m (.Assign [.Subscript (.Name x p1) j p2] e pos) (fPutT i f fj) := by
  refine ⟨PSimp (ps_dput (by unfold RmU at hr; omega) (pe_var hN hv hd hcd) hj.pe he.pe hs) fun D σ H h => ?_⟩
  obtain ⟨S0, H0, ρ, ⟨S, Fp, st⟩, p⟩ := h
  unfold fPutT at p
  split at p
  · rename_i ks ds exs
    refine ⟨S, ρ, st.envM, (lift_post st p).post fun d v S1 H1 s1 r k1 => ?_⟩
    have st1 := st.step s1
    obtain ⟨w, e1, o⟩ := st1.2.1.at_ i _ exs
    refine ⟨w, e1, S1, ρ, st1.envM, (lift_post st1 k1).post fun y vy S2 H2 s2 ry k2 => ?_⟩
    have st2 := st1.step s2
    obtain ⟨w2, e2, o2⟩ := st2.2.1.at_ i _ exs
    rw [e1] at e2
    cases e2
    rw [hmd] at o2
    obtain ⟨q, kvs, ds', ew, ed, efp, sq, hq, rv⟩ := o2
    cases ed
    cases ek : keyT y with
    | none => rw [ek] at k2; exact k2.elim
    | some kk =>
      rw [ek] at k2
      have k2 : SPost X.K X.mg E L S0 H0 m (if szOk ((kvs.map (·.1)).length + 1) = true then .ok (.nx (ρ.set i (some (.dit (putKsT (kvs.map (·.1)) kk) (putVsT (kvs.map (·.1)) ds kk d))))) else .er) D := k2
      split at k2
      · rename_i hz
        have hz := szOk_lt hz
        rw [List.length_map] at hz
        obtain ⟨b, rfl, hb⟩ := keyT_ok ry ek
        obtain ⟨pk1, pk2⟩ := putT_ok (k := kk) rv (r.mono s2.ss)
        refine ⟨q, upd H2 q (.dT (putK kvs kk v)), ew, DPut.t hq (st2.1.sub _ _ hb) hz, ?_⟩
        refine k2 σ _ (st2.writeG (v := w) (d1 := .dit (putKsT (kvs.map (·.1)) kk) (putVsT (kvs.map (·.1)) ds kk d)) exs efp e1 sq ?_).stM
        rw [hmd]
        exact ⟨q, putK kvs kk v, _, ew, by rw [pk1], rfl, sq, upd_same, pk2⟩
      · exact k2.elim
  · exact p.elim
/-- d[j] of an own dict -/
theorem je_dgetOT (i : Nat) (hr : RmU X.A) (hj : JE X E m .sh j fj) (hmd : mdAt m i = .dt := by rfl) (hN : X.N[i]? = some x := by rfl) (hv : Vis X.env.scope x := by first | exact Or.inl rfl | exact Or.inr (Or.inl rfl) | exact Or.inr (Or.inr rfl))
    (hd : (x == ("__debug__" : Str)) = false := by decide) (hcd : (x == ("__classdict__" : Str)) = false := by decide) (hs : NoSl j := by intro _ _; rfl) : JE X E m .sh (.Subscript (.Name x p1) j pos) (f2 dGetT (fV i) fj) := by
  refine ⟨PEimp (pe_dget (by unfold RmU at hr; omega) (pe_var hN hv hd hcd) hj.pe hs) fun σ H Q h => ?_⟩
  obtain ⟨S, ρ, hm, hp⟩ := h
  obtain ⟨hs0, Fp, en⟩ := id hm
  unfold f2 fV at hp
  split at hp
  · rename_i d ed
    obtain ⟨v, e1, o⟩ := en.at_ i d ed
    have o1 := o
    rw [hmd] at o1
    obtain ⟨q, kvs, ds, ev, e0, _, sq, hq, rv⟩ := o1
    subst e0
    have hp : Post X.K X.mg (WE E σ) S H .sh ((fj ρ).bind fun y => dGetT (.dit (kvs.map (·.1)) ds) y) Q := hp
    refine ⟨v, e1, S, ρ, hm, (Post.bind hp).post fun dy vy S1 H1 s1 ry k1 => ?_⟩
    cases ek : keyT dy with
    | none => unfold dGetT at k1; rw [ek] at k1; exact k1.elim
    | some kk =>
      obtain ⟨b, rfl, hb⟩ := keyT_ok ry ek
      have k2 : Post X.K X.mg (WE E σ) S1 H1 .sh (match lookT (kvs.map (·.1)) ds kk with
        | some d => .ok d
        | none => .er) Q := by
        unfold dGetT at k1
        rw [ek] at k1
        exact k1
      rcases lookT_ok (k := kk) rv with ⟨e3, _⟩ | ⟨d', w, e3, e4, rw'⟩
      · rw [e3] at k2; exact k2.elim
      · rw [e3] at k2
        refine ⟨q, w, ev, ?_, Post.val k2 s1.sub (rw'.mono s1.ss)⟩
        rw [← e4]
        exact DGet.t (s1.hh _ _ hq) (s1.sub _ _ hb)
  · exact hp.elim
end
end Da
namespace Da
open PySem PySem.Spec L2
end Da
namespace Da
open PySem PySem.Spec L2
def f3 (g : D → D → D → Res D) (fa fb fc : Env → Res D) : Env → Res D := fun ρ => (fa ρ).bind fun x => (fb ρ).bind fun y => (fc ρ).bind fun z => g x y z
end Da
namespace Da
open PySem PySem.Spec L2
inductive MgAll (mg : Str → Option Value) : List Str → List Addr → Prop
  | nil : MgAll mg [] []
  | cons {y : Str} {Y : Addr} {ys : List Str} {Ys : List Addr} (h : mg y = some (.ref Y)) (t : MgAll mg ys Ys) : MgAll mg (y :: ys) (Y :: Ys)
theorem MgAll.eq {mg : Str → Option Value} : ∀ {ys : List Str} {Ys Zs : List Addr}, MgAll mg ys Ys → MgAll mg ys Zs → Ys = Zs
  | _, _, _, .nil, .nil => rfl
  | _, _, _, .cons h t, .cons h' t' => by
    rw [h] at h'
    have := Option.some.inj h'
    injection this with this
    rw [this, MgAll.eq t t']
end Da
namespace Da
open PySem PySem.Spec PyProof.Rows L2
end Da
namespace Da
open PySem PySem.Spec L2
end Da
namespace Da
open PySem PySem.Spec L2
end Da
namespace Da
open PySem PySem.Spec L2
/-- the same data in another view and heap -/
structure Lk (K : PySem.W.Frag) (mg : Str → Option Value) (S H S1 H1 : Hp) : Prop where
  rep : ∀ v d, Rep K mg S v d → Rep K mg S1 v d
  own : ∀ p o, S p = none → H p = some o → S1 p = none ∧ H1 p = some o
  xd : ∀ p o, S p = some (.xd o) → S1 p = some (.xd o)
section
variable {K : PySem.W.Frag} {mg : Str → Option Value} {S S1 H H1 : Hp}
theorem RepL.lk (l : Lk K mg S H S1 H1) {vs : List V} {ds : List D} (h : RepL K mg S vs ds) : RepL K mg S1 vs ds := ⟨h.len, fun i v d a b => l.rep v d (h.at_ i v d a b)⟩
theorem OwnTr.lk (l : Lk K mg S H S1 H1) : ∀ {n : Nat} {fp : List Addr} {v : V} {d : D}, OwnTr K mg S H n fp v d → OwnTr K mg S1 H1 n fp v d
  | 0, _, _, _, h => ⟨l.rep _ _ h.1, h.2⟩
  | n + 1, _, _, _, h => by
    obtain ⟨p, vs, ds, fps, e1, e2, e3, e4, e5, e6, e7, e8⟩ := h
    obtain ⟨z4, z5⟩ := l.own _ _ e4 e5
    exact ⟨p, vs, ds, fps, e1, e2, e3, z4, z5, e6, e7, fun j w e f x y z => (e8 j w e f x y z).lk l⟩
theorem OwnTh.lk (l : Lk K mg S H S1 H1) {n k : Nat} {q : Addr} {fp : List Addr} {v : V} {d : D} (h : OwnTh K mg S H n k q fp v d) : OwnTh K mg S1 H1 n k q fp v d := by
  obtain ⟨p, vs, ds, fps, e1, e2, e3, e4, e5, e6, e7, h1, h2, h3, e8⟩ := h
  obtain ⟨z4, z5⟩ := l.own _ _ e4 e5
  exact ⟨p, vs, ds, fps, e1, e2, e3, z4, z5, e6, e7, h1, h2, h3, fun j w e f i x y z => (e8 j w e f i x y z).lk l⟩
theorem OwnAt.lk (l : Lk K mg S H S1 H1) {fp : List Addr} {v : V} {d : D} {md : Md} (h : OwnAt K mg S H fp v d md) : OwnAt K mg S1 H1 fp v d md := by
  cases md with
  | owq q0 =>
    obtain ⟨e0, p, vs, ds, e1, e2, e3, e4, e5, e6⟩ := h
    obtain ⟨z4, z5⟩ := l.own _ _ e4 e5
    exact ⟨e0, p, vs, ds, e1, e2, e3, z4, z5, e6.lk l⟩
  | tr n b at_ =>
    cases b with
    | none => exact ⟨h.1, h.2.lk l⟩
    | some kq => exact ⟨h.1, h.2.lk l⟩
  | ex a0 b0 c0 =>
    obtain ⟨c, vfs, ds, e1, e2, e3, e4, e5, e6⟩ := h
    exact ⟨c, vfs, ds, e1, e2, e3, e4, e5.imp id fun ⟨dx, y1, y2⟩ => ⟨dx, y1, l.xd _ _ y2⟩, e6.lk l⟩
  | sh => exact ⟨l.rep _ _ h.1, h.2⟩
  | ow =>
    obtain ⟨p, vs, ds, e1, e2, e3, e4, e5, e6⟩ := h
    obtain ⟨z4, z5⟩ := l.own _ _ e4 e5
    exact ⟨p, vs, ds, e1, e2, e3, z4, z5, e6.lk l⟩
  | ow2 =>
    obtain ⟨p, ps, dss, e1, e2, e3, e4, e5, e6, e7⟩ := h
    obtain ⟨z4, z5⟩ := l.own _ _ e4 e5
    refine ⟨p, ps, dss, e1, e2, e3, z4, z5, e6, fun j q ds x y => ?_⟩
    obtain ⟨z1, vs, z2, z3⟩ := e7 j q ds x y
    obtain ⟨y1, y2⟩ := l.own _ _ z1 z2
    exact ⟨y1, vs, y2, z3.lk l⟩
  | dk =>
    obtain ⟨p, vs, ds, e1, e2, e3, e4, e5, e6⟩ := h
    obtain ⟨z4, z5⟩ := l.own _ _ e4 e5
    exact ⟨p, vs, ds, e1, e2, e3, z4, z5, e6.lk l⟩
  | dt =>
    obtain ⟨p, vs, ds, e1, e2, e3, e4, e5, e6⟩ := h
    obtain ⟨z4, z5⟩ := l.own _ _ e4 e5
    exact ⟨p, vs, ds, e1, e2, e3, z4, z5, e6.lk l⟩
  | ob p =>
    obtain ⟨dx, C, c, fs, ds, e1, e2, e3, e4, e5, e6, e7, e8, e9⟩ := h
    obtain ⟨z4, z7⟩ := l.own _ _ e4 e7
    obtain ⟨z5, z8⟩ := l.own _ _ e5 e8
    exact ⟨dx, C, c, fs, ds, e1, e2, e3, z4, z5, e6, z7, z8, e9.lk l⟩
theorem EnvM.lk (l : Lk K mg S H S1 H1) (s : Same S1 H1) {m : Mds} {σ : L2.St} {ρ : Env} (h : EnvM K mg m S H σ ρ) : EnvM K mg m S1 H1 σ ρ := by
  obtain ⟨_, F, h⟩ := h
  exact ⟨s, F, h.len, fun i d e => by
    obtain ⟨v, e1, e2⟩ := h.at_ i d e
    exact ⟨v, e1, e2.lk l⟩, h.nd, h.apart⟩
end
end Da
namespace Da
open PySem PySem.Spec L2
end Da
namespace Da
open PySem PySem.Spec L2
end Da
namespace Da
open PySem PySem.Spec PyProof.Rows L2
end Da
namespace Da
open PySem PySem.Spec L2
end Da
namespace Da
open PySem PySem.Spec PyProof.Rows L2
end Da
namespace Da
open PySem PySem.Spec L2 PyProof.Rows
end Da
namespace Da
open PySem PySem.Spec L2 PyProof.Rows
section
variable {prog : Program} {w : World} {A : Around} {E : Value → Shared → Prop} {s : Shared} {K : PySem.W.Frag} {a dx C f : Addr} {mA : Str → Option Value} {us : List Value} {R : Result → Shared → Prop}
theorem fn_data (kp : PySem.W.keepIn K (.ref f) = true) (hf : PySem.W.isFn K (.ref f) = true) : ∃ c d fd sl, K.lookup f = some ⟨c, d, .func fd, sl⟩ := by
  unfold PySem.W.keepIn at kp
  dsimp only at kp
  split at kp
  · rename_i c d fd sl e
    exact ⟨c, d, fd, sl, e⟩
  · unfold PySem.W.specialIn at kp
    rw [beq_iff_eq.mp hf] at kp
    have z : (PySem.W.findIn [] (.type "function") "__call__" == some (some (Value.builtin "type.__call__"))) = false := by decide +kernel
    exact absurd ((show (PySem.W.findIn [] (.type "function") "__call__" == some (some (Value.builtin "type.__call__"))) = true from kp).symm.trans z) (by decide)
  · cases kp
theorem call_own (X : K.In s.heap) (J : ObjM s.heap a dx C mA) (me : Meth K C "__call__" f) (h : codeAny (model prog w) A (.call (.ref f) ⟨.ref a :: us, []⟩) R s) :
    codeAny (model prog w) A (.call (.ref a) ⟨us, []⟩) R s := by
  obtain ⟨oc, od, fd, sl, hl⟩ := fn_data me.kp me.fn
  obtain ⟨od', I, _⟩ := J.look
  refine codeAny_of_tree ?_
  show wpAny _ _ (callAny (.ref a) ⟨us, []⟩) _ _ s
  simp only [callAny]
  refine wpAny_bind (wpAny_load J.obj ?_)
  show wpAny _ _ (callAny.viaDunder (.ref a) ⟨us, []⟩) _ _ s
  unfold callAny.viaDunder specialOf
  refine wpAny_bind (wpAny_bind (I.type.here ((PySem.W.looks_findIn X me.at_).here ?_)))
  dsimp only
  refine wpAny_bind ((PySem.W.bind_fn X _ (beq_iff_eq.mp me.fn)).here ?_)
  dsimp only
  unfold callAny.plainCallee
  refine wpAny_bind (wpAny_bind (wpAny_load (X _ _ hl) (wpAny_pure ?_)))
  rw [if_pos rfl]
  exact wpAny_pure (And.intro rfl h)
end
section
variable {M : Model} {A : Around} {E : Value → Shared → Prop} {s : Shared} {env : PySem.Env} {pos : Pos} {f : Value} {Q : Value → Shared → Prop} {e : Expr} {rest : List Expr}
theorem callWith_own (h : wpAny M A (spliced (backTo pos (starEach (e :: rest) env))) (fun vs s₁ => PySem.W.Looks M s₁.heap (keeperOf f) .caller ∧ wpAny M A (call f vs) Q E s₁) E s)
    (he : starEach (e :: rest) env = (false, eval e env) :: starEach rest env) (hpl : (backTo pos (starEach rest env)).any (·.1) = false) : wpAny M A (callWith pos f [] (backTo pos (starEach (e :: rest) env)) []) Q E s := by
  rw [he] at h ⊢
  have hplain : ((backTo pos ((false, eval e env) :: starEach rest env)).any (·.1) || ([] : List (Option Str × Sem Value)).any (·.1.isNone)) = false := by show ((false || (backTo pos (starEach rest env)).any (·.1)) || false) = false; rw [hpl]; rfl
  have hA : wpAny M A (evalArgs f true (backTo pos ((false, eval e env) :: starEach rest env)) []) (fun a s₁ => PySem.W.Looks M s₁.heap (keeperOf f) .caller ∧ wpAny M A (call f ([] ++ a.pos) a.kw) Q E s₁) E s :=
    Calls.evalArgs_plain (Q := fun a s₁ => PySem.W.Looks M s₁.heap (keeperOf f) .caller ∧ wpAny M A (call f ([] ++ a.pos) a.kw) Q E s₁) h
  unfold callWith
  refine wpAny_bind (wpAny_holding (wpAny_mono hA (fun a s₁ h₁ => wpAny_bind (wpAny_standAt ?_)) fun _ _ x => x))
  simp only [hplain]
  refine wpAny_bind (h₁.1.here ?_)
  have tail : ∀ {t : Sem Value}, wpAny M A t Q E s₁ → wpAny M A (t >>= fun r => holding [r] point >>= fun _ => pure r) Q E s₁ :=
    fun ht => wpAny_bind (wpAny_mono ht (fun r s₂ hr => wpAny_bind (wpAny_holding (wpAny_point (wpAny_pure hr)))) fun _ _ x => x)
  dsimp only
  exact tail (wpAny_operate' h₁.2)
end
section
variable {X : Cx} {E : WX} {m : Mds} {a b e : Expr} {es : List Expr} {fa fb : Env → Res D} {fs : Env → Res (List D)} {pos nm : Pos} {x c : Str} {k np : Nat} {ps : List Str} {md : Md} {g : List D → Res D}
theorem tMethO_ok {mn : Str} (G : ∀ C, X.mg c = some (.ref C) → Cls X.K C) {σ : L2.St} {H : Hp} {Q : VK} (h : tE X.K X.mg E m md (fMeth c mn np g fa fs) σ H Q) :
    tE X.K X.mg E m .sh fa σ H fun x H1 => ∃ a dx gs C, x = .ref a ∧ X.mg c = some (.ref C) ∧ H1 a = some (.ins C dx gs) ∧ gs.lookup mn = none ∧ tA X.K X.mg E m fs σ H1 fun vs H2 => H2 a = some (.ins C dx gs) ∧ spD X.K X.mg np md g (x :: vs) H2 Q (WE E σ) := by
  obtain ⟨S, ρ, hm, hp⟩ := h
  refine ⟨S, ρ, hm, (Post.bind hp).post fun d v S1 H1 s1 r k => ?_⟩
  cases d with
  | obj c' ns ds =>
    have k2 : Post X.K X.mg (WE E σ) S1 H1 md (if c' = c ∧ lookF ns ds mn = none then (fs ρ).bind fun ys => chk np g (.obj c' ns ds :: ys) else .er) Q := k
    by_cases hc : c' = c ∧ lookF ns ds mn = none
    · rw [if_pos hc] at k2
      obtain ⟨ec, hl⟩ := hc
      obtain ⟨q, C, dx, gs, ev, hq, hC, en, rv⟩ := r.of_obj
      rw [ec] at hC
      refine ⟨q, dx, gs, C, ev, hC, s1.sub _ _ hq, ?_, S1, ρ, hm.step s1, (Post.bind k2).imp fun ys S2 H2 s2 k3 vs rs => ⟨s2.hh _ _ (s1.sub _ _ hq), S2, _, s2.sub, .cons (r.mono s2.ss) rs, k3⟩⟩
      rw [en] at hl
      rcases lookF_ok (f := mn) rv with ⟨_, e2⟩ | ⟨d, w, e1, _, _⟩
      · exact e2
      · rw [e1] at hl; cases hl
    · rw [if_neg hc] at k2
      exact k2.elim
  | _ => exact k.elim
theorem je_callO (G : KeepsM X.prog X.w X.K X.mg X.base c "__call__" k ps np md g) (hr : Room k X.A) (tk : Takes X E) (ho : JE X E m .sh (.Name x nm) fa) (ha : JA X E m (e :: es) fs)
    (hst : starEach (e :: es) X.env = (false, eval e X.env) :: starEach es X.env := by rfl) (hpl : (backTo pos (starEach es X.env)).any (·.1) = false := by rfl) : JE X E m md (.Call (.Name x nm) (e :: es) [] pos) (fMeth c "__call__" np g fa fs) := by
  obtain ⟨C, f, fd, hC, cl, me, hb, F⟩ := G
  refine ⟨⟨fun pins s σ H Q I h => ?_⟩⟩
  have h := tMethO_ok (fun C' hC' => by rw [hC] at hC'; injection hC' with z; injection z with z; rw [← z]; exact cl) h
  refine wpAny_Call_Name_kw (thn (ho.pe.run pins s σ H _ I h) fun u s1 ⟨x, H1, I1, rx, a, dx, gs, C', ex, hC', ea, l, q⟩ => ?_)
  rw [hC] at hC'
  injection hC' with z
  injection z with z
  subst z ex
  obtain rfl : u = Value.ref a := rx
  refine callWith_own (thn (ha.pa.run pos pins s1 σ H1 _ I1 q) fun us s2 ⟨vs, H2, I2, r, ea2, q2⟩ => ?_) hst hpl
  obtain ⟨mA, J, _⟩ := ins_get I2.hok ea2
  refine ⟨(PySem.W.Looks.ld (part := none) J.obj).andThen .now, ?_⟩
  have hl : (Value.ref a :: us).length = ps.length := by
    have e1 : (V.ref a :: vs).length = ps.length := F.len _ _ _ _ q2
    rw [← e1, List.length_cons, List.length_cons, r.length]
  have bd := hb s2 (Value.ref a :: us) I2.kIn (by rw [List.append_nil]; exact hl)
  rw [List.append_nil] at bd
  refine wpAny_call (call_own I2.kIn J me (codeAny_mono (F.run X.A X.stack s2 H2 ⟨.ref a :: us, []⟩ (.ref a :: us) (.ref a :: vs) Q (WE E σ) hr I2.env0 bd (.cons rfl r) q2) fun r' s' hq => ?_))
  cases r' with
  | error e => exact passAt tk σ pins H2 s2 e s' I2 hq
  | ok fl =>
    cases fl with
    | ret u => exact I2.after hq
    | next => exact False.elim hq
    | brk => exact False.elim hq
    | cont => exact False.elim hq
end
end Da
namespace Da
open PySem PySem.Spec L2
section
variable {X : Cx}
/-- D is stored into, by the comprehension -/
theorem put_comp {pins : List (Addr × Obj)} {σ : L2.St} {H : Hp} {s : Shared} {E : Value → Shared → Prop} {D : Addr} {kvs : List (List Key × V)} {k : List Key} {b : Addr} {v : V} {r : Value} {Q : Unit → Shared → Prop} (room : X.A.units < cLine) (I : Inv X pins σ H s)
    (hD : H D = some (.dT kvs)) (hz : kvs.length < sizeLine) (hb : H b = some (.tup (k.map kV))) (rv : RelV v r) (q : ∀ s', Inv X pins σ (upd H D (.dT (putK kvs k v))) s' → Q () s') : wpAny (model X.prog X.w) X.A (dictSet D (.ref b) r) Q E s := by
  obtain ⟨z, sys, xs, hx, dd⟩ := dt_of I.hok hD
  have len : xs.length ≤ sizeLine := by rw [← Paired.length hx]; exact z
  have len2 := length_putK kvs k v
  refine wpAny_dictSet_heap (hsz := len) (knd := tupleKind (mixKind X.prog X.w)) room (key_of I.hok hb) dd fun h1 ⟨o, es, ep, d1, d2, d3, d4, _, d5⟩ same => q _ ?_
  refine d_write I (by rw [hD]; exact True.intro) same ⟨o, d1⟩ ⟨by omega, sys, _, (hx.put k hb rv).keeps fun c ys ec => ?_, o, es, ep, d1, d2, d3, d4, d5⟩
  rwa [upd_ne (ne_of ec hD fun w => nomatch w)]
/-- one turn's end: what is stored, or nothing -/
def StoreT (D : Addr) (tk tv : TE) (Nx : Hp → Prop) (σ : L2.St) (b : Bool) (H : Hp) : Prop := match b with
  | true => tk σ H fun y H1 => tv σ H1 fun z H2 => ∃ kvs k a, y = .ref a ∧ H2 a = some (.tup (k.map kV)) ∧ H2 D = some (.dT kvs) ∧ kvs.length < sizeLine ∧ Nx (upd H2 D (.dT (putK kvs k z)))
  | false => Nx H
/-- one turn -/
def TurnT (D : Addr) (J : It) (g : TG) (tt : TT) (tk tv : TE) (vs : List Nat) (σ : L2.St) (W : Nat → Nat → Hp → Prop) (i m : Nat) (H : Hp) : Prop :=
  J.go i H ∧ ∃ Nx : Hp → Prop, (∀ H1, Nx H1 → ∃ m1, m1 < m ∧ W (i + 1) m1 H1) ∧ ∀ x H1, J.yld i H x H1 → g x (wipe σ vs) H1 fun σ2 H2 => wipe σ2 vs = wipe σ vs ∧ tt σ2 H2 (StoreT D tk tv Nx σ2)
def tDcT (wi : TI) (g : TG) (tt : TT) (tk tv : TE) (vs : List Nat) : TE := fun σ H Q => wi σ H fun J H1 => ∀ D, H1 D = none →
  ∃ W : Nat → Nat → Hp → Prop, (∃ m, W 0 m (upd H1 D (.dT []))) ∧ ∀ i m H, W i m H → (J.stop i H ∧ Q (.ref D) H) ∨ TurnT D J g tt tk tv vs σ W i m H
abbrev InC (X : Cx) (P : Cx → Prop) (scope : Scope) : Prop := ∀ (s : Shared) (H : Hp) (C : Addr) (cl : List (Str × Addr)) (fp : List Addr), P (X.blk s H scope (compEnvC scope cl C X.env) fp)
theorem pe_dcT {kx vx tg iter : Expr} {ifs : List Expr} {scope : Scope} {own : List (Str × Nat)} {pos : Pos} {wi : TI} {g : TG} {tt : TT} {tk tv : TE} (room : X.A.units < cLine) (calm : X.calm = true) (nd : X.N.Nodup) (pi : PI X tg iter wi) (ok : BlkOk X.N X.env.scope scope own)
    (pg : InC X (fun Y => PG Y tg g) scope) (pt : InC X (fun Y => PTs Y ifs tt) scope) (pk : InC X (fun Y => PE Y kx tk) scope) (pv : InC X (fun Y => PE Y vx tv) scope) (fold : ∀ x, foldedSetIterable iter X.env x = pure x) :
    PE X (.DictComp kx vx [⟨tg, iter, ifs, 0⟩] scope pos) (tDcT wi g tt tk tv (own.map (·.2))) := by
  constructor
  intro pins s σ H Q I h
  rw [arm_eval_DictComp]
  have cl := closure_ok (fun y hy e => (ok.free y hy e).elim (fun k => I.ok.has _ (.inl k)) fun k => I.ok.has _ (.inr k))
  refine wpAny_comprehension_free (use := none) rfl fold cl ok.kind (fun y hy e => by rw [ok.uniq y hy, e]) (thn (pi.run pins s σ H _ I h) fun _ _ w1 => thn w1 fun itv s2 w2 => ?_)
  obtain ⟨it, fp, tn, J, H2, rfl, I2, T, w3, w4, w5⟩ := w2
  refine wpAny_newObj_type (newEnv_comp ?_)
  -- the dict D, then the block's own names
  obtain ⟨D, eD⟩ : ∃ D, s2.heap.objs.size = D := ⟨_, rfl⟩
  obtain ⟨W, ⟨m0, start⟩, turn⟩ := w5 D (I2.hok.fresh (Nat.le_of_eq eD))
  obtain ⟨s3, e3⟩ : ∃ s3 : Shared, s3 = { s2 with heap := s2.heap.push { cls := .type "dict", data := .dict #[] } } := ⟨_, rfl⟩
  have I3 : Inv X pins σ (upd H2 D (.dT [])) s3 := by
    subst eD e3
    exact I2.laid (t' := s2.toks) (fun _ _ q => Heap.get?_push_of_some _ q) (Nat.le_refl _) (dt_empty s2.heap I2.big)
  have hp3 : s3.heap = s2.heap.push { cls := .type "dict", data := .dict #[] } := by rw [e3]
  have low : ∀ b ∈ fp, b < D := fun b hb => by
    obtain ⟨o, q, _⟩ := T.obj _ _ w3 b hb
    exact eD ▸ Heap.lt_size q
  have fpo : ∀ b ∈ fp, FpOk X pins (upd H2 D (.dT [])) b ∧ b < s3.heap.objs.size := fun b hb => by
    have lt := low b hb
    have hn : upd H2 D (.dT []) b = none := (upd_ne (Nat.ne_of_lt lt)).trans (w4 b hb).1
    exact ⟨⟨hn, (w4 b hb).2⟩, by rw [hp3, Heap.size_push, eD]; exact Nat.lt_succ_of_lt lt⟩
  have none3 : ∀ b ∈ fp, upd H2 D (.dT []) b = none := fun b hb => (fpo b hb).1.1
  have tn3 : tn 0 s3.heap := T.keep _ _ _ w3 fun b _ o q => hp3 ▸ Heap.get?_push_of_some _ q
  have I4 := block_start I3 ok nd fpo
  obtain ⟨cls, ecls⟩ : ∃ cls, cls = cellsFrom (s3.heap.objs.size + 1) scope.names (cloFrom X.env.cells scope.names []) := ⟨_, rfl⟩
  have G := pg s3 (upd H2 D (.dT [])) s3.heap.objs.size cls fp
  have TT := pt s3 (upd H2 D (.dT [])) s3.heap.objs.size cls fp
  have KK := pk s3 (upd H2 D (.dT [])) s3.heap.objs.size cls fp
  have VV := pv s3 (upd H2 D (.dT [])) s3.heap.objs.size cls fp
  rw [← e3, eD]
  rw [← ecls] at I4 ⊢
  obtain ⟨ce, ece⟩ : ∃ ce, ce = compEnvC scope cls s3.heap.objs.size X.env := ⟨_, rfl⟩
  have loc : ce.locals = s3.heap.objs.size := by rw [ece]; rfl
  obtain ⟨H3, eH3⟩ : ∃ H3, H3 = upd H2 D (.dT []) := ⟨_, rfl⟩
  rw [← ece, ← eH3] at G TT KK VV I4
  show codeAny (model X.prog X.w) X.A (.compStart (.DictComp kx vx [⟨tg, iter, ifs, 0⟩] scope pos) 0 (.ref it) (.ref D) (compEnvC scope cls s3.heap.objs.size X.env)) (compPost (model X.prog X.w) X.A X.xe none (EP X pins σ Q) (.ref D) s3.heap.objs.size) _
  rw [← ece]
  rw [← eH3] at I3 start none3 fpo
  obtain ⟨s4, e4⟩ : ∃ s4 : Shared, s4 = { s3 with heap := pushCells (s3.heap.push { cls := .type "dict", data := .dict #[] }) scope.names } := ⟨_, rfl⟩
  rw [← e4] at I4
  have tn4 : tn 0 s4.heap := T.keep _ _ _ tn3 fun b _ o q => by rw [e4]; exact pushCells_keeps _ _ _ _ (Heap.get?_push_of_some _ q)
  -- the walked thing stands by
  have by_ : ∀ {σ' : L2.St} {H' : Hp} {s' : Shared}, Inv (X.blk s3 H3 scope ce fp) [] σ' H' s' → (∀ b ∈ fp, H' b = none) → ∀ b ∈ fp, FpOk (X.blk s3 H3 scope ce fp) [] H' b := fun I' hn b hb =>
    ⟨hn b hb, (I'.ok.exf b hb).1, I'.ok.exfs b hb, .inl hb, fun x c q => (I'.ok.exf b hb).2 x c q, fun p hp => by cases hp⟩
  have walk : codeAny (model X.prog X.w) X.A (.compLoop (.DictComp kx vx [⟨tg, iter, ifs, 0⟩] scope pos) 0 (.ref it) (.ref D) ce) (compPost (model X.prog X.w) X.A X.xe none (EP X pins σ Q) (.ref D) s3.heap.objs.size) s4 := by
    refine compLoop_anyD (fun n s' => ∃ i H', Inv (X.blk s3 H3 scope ce fp) [] (wipe σ (own.map (·.2))) H' s' ∧ tn i s'.heap ∧ (∀ b ∈ fp, H' b = none) ∧ W i n H') (fun n s5 ⟨i, H5, J1, J2, J3, J4⟩ => ?_) m0 ⟨0, H3, I4, tn4, none3, start⟩
    rcases turn i n H5 J4 with ⟨stop, fin⟩ | ⟨go, Nx, hNx, each⟩
    · refine thnF (T.done (X.blk s3 H3 scope ce fp) rfl rfl rfl calm i [] s5 _ H5 (fun _ _ => False) J1 (by_ J1 J3) J2 stop) fun r s6 ⟨er, I6⟩ => ?_
      subst er
      have I7 : Inv X pins σ H5 s6 := I3.call' (ch := fp) I6.os I6.base I6.hok I6.bare fun b hb => by
        obtain ⟨_, f1, f2, f3, f4, f5⟩ := (fpo b hb).1
        exact ⟨f3, f1, f4, f5⟩
      have free : H5 s3.heap.objs.size = none := loc ▸ (show H5 ce.locals = none from I6.free)
      obtain ⟨m, ns, _⟩ := I6.loc
      have ns : s6.heap.Ns s3.heap.objs.size m := loc ▸ (show s6.heap.Ns ce.locals m from ns)
      refine ⟨m, ns, fun h2 sb => ?_⟩
      obtain ⟨f0, f1, f2, f3, f4, f5⟩ := I3.fpOk (Nat.le_refl _) free
      exact ⟨.ref D, H5, I7.turned (t' := s6.toks) (fun b o hb q => (sb.2 b hb).trans q) f0 f1 f3 f4 f5, rfl, fin⟩
    · refine thnF (T.item (X.blk s3 H3 scope ce fp) rfl rfl rfl calm i [] s5 _ H5 (fun _ _ => False) J1 (by_ J1 J3) J2 go) fun r s6 ⟨u, er, y6⟩ => ?_
      subst er
      refine thnF y6 fun _ s7 ⟨x, H7, K1, K2, K3, K4, K5⟩ => ?_
      refine thnF (G.run _ s7 _ H7 x u _ (K1.pinned (by_ K1 K5) (T.obj _ _ K4)) K2 (each x H7 K3)) fun _ s8 ⟨σ8, H8, I8, same, q8⟩ => ?_
      have back : ∀ {s' : Shared} {H' : Hp}, Inv (X.blk s3 H3 scope ce fp) ([] ++ pinsAt fp s7.heap) σ8 H' s' → Nx H' → ∃ m, m < n ∧ ∃ i H', Inv (X.blk s3 H3 scope ce fp) [] (wipe σ (own.map (·.2))) H' s' ∧ tn i s'.heap ∧ (∀ b ∈ fp, H' b = none) ∧ W i m H' := fun {s' H'} I' nx => by
        obtain ⟨m1, lt, w1⟩ := hNx H' nx
        have pin : ∀ b ∈ fp, ∀ o, s7.heap.get? b = some o → s'.heap.get? b = some o ∧ H' b = none := fun b hb o q => by
          have z := I'.pin (b, o) (List.mem_append_right _ (List.mem_append_right _ (mem_pinsAt hb q)))
          exact ⟨z.1, z.2.1⟩
        refine ⟨m1, lt, i + 1, H', (I'.unpinned (pins := [])).weak (by rw [← same, L2.wipe_length]) (fun j v q => ?_), T.keep _ _ _ K4 fun b hb o q => (pin b hb o q).1, fun b hb => ?_, w1⟩
        · exact (L2.wipe_some (same ▸ q)).1
        · obtain ⟨o, q, _⟩ := T.obj _ _ K4 b hb
          exact (pin b hb o q).2
      refine thnF (TT.run _ s8 σ8 H8 _ I8 q8) fun b s9 ⟨H9, I9, q9⟩ => ?_
      cases b with
      | false =>
        rw [if_neg (by decide)]
        exact back I9 q9
      | true =>
        rw [if_pos rfl]
        refine thnF (KK.run _ s9 σ8 H9 _ I9 q9) fun vk s10 ⟨yk, H10, I10, r10, q10⟩ => thnF (VV.run _ s10 σ8 H10 _ I10 q10) fun vv s11 ⟨yv, H11, I11, r11, kvs, k, a, ek, ha, hD, hz, nx⟩ => ?_
        subst ek
        cases (show vk = Value.ref a from r10)
        exact put_comp (X := X.blk s3 H3 scope ce fp) room I11 hD hz ha r11 fun s12 I12 => back I12 nx
  exact e4 ▸ codeAny_compStart_dict walk (T.self X.A 0 _ _ _ tn4 walk)
end
def dcGoT (g : D → Env → Res Env) (c : Env → Res Bool) (fk fv : Env → Res D) (ρ : Env) : List D → List (List Key) → List D → Res (List (List Key) × List D)
  | [], ks, ds => .ok (ks, ds)
  | x :: xs, ks, ds => match g x ρ with
    | .ok ρ1 => (match c ρ1 with
      | .ok b => if b = true then (match fk ρ1 with
        | .ok y => (match fv ρ1 with
          | .ok z => (match keyT y with
            | some k => dcGoT g c fk fv ρ xs (putKsT ks k) (putVsT ks ds k z)
            | none => .er)
          | _ => .er)
        | _ => .er) else dcGoT g c fk fv ρ xs ks ds
      | _ => .er)
    | _ => .er
def fDcT (vs : List Nat) (it : Env → Res (List D)) (g : D → Env → Res Env) (c : Env → Res Bool) (fk fv : Env → Res D) : Env → Res D := fun ρ => (it ρ).bind fun xs => if szOk xs.length = true then (match dcGoT g c fk fv (wipeD ρ vs) xs [] [] with
  | .ok q => .ok (.dit q.1 q.2)
  | _ => .er) else .er
section
variable {K : PySem.W.Frag} {mg : Str → Option Value} {E : WX} {m : Mds} {it : Env → Res (List D)} {g : D → Env → Res Env} {c : Env → Res Bool} {fk fv : Env → Res D} {ts vs : List Nat}
/-- the dict under way -/
def DcWT (K : PySem.W.Frag) (mg : Str → Option Value) (g : D → Env → Res Env) (c : Env → Res Bool) (fk fv : Env → Res D) (ρ : Env) (xs : List D) (q : List (List Key) × List D) (D0 : Addr) (S1 H1 : Hp) (i : Nat) (H : Hp) : Prop :=
  ∃ S2 kvs ds, Step S1 H1 S2 H ∧ S2 D0 = none ∧ H D0 = some (.dT kvs) ∧ RepL K mg S2 (kvs.map (·.2)) ds ∧ dcGoT g c fk fv ρ (xs.drop i) (kvs.map (·.1)) ds = .ok q ∧ kvs.length ≤ i
theorem dc_coreT {σ : L2.St} {S H S1 H1 : Hp} {ρ : Env} {Q : VK} {EE : XK} {xs : List D} {J : It} (hts : ∀ t ∈ ts, t ∈ vs) (hm : EnvM K mg m S H σ ρ) (s1 : Step S H S1 H1) (w : WalkD K mg J S1 xs)
    (k : Post K mg EE S1 H1 .dt (if szOk xs.length = true then (match dcGoT g c fk fv (wipeD ρ vs) xs [] [] with
      | .ok q => .ok (.dit q.1 q.2)
      | _ => .er) else .er) Q) :
    tDcT (fun _ _ R => R J H1) (tGD K mg m ts g) (tT K mg EF m c) (tE K mg EF m .sh fk) (tE K mg EF m .sh fv) vs σ H Q := by
  intro D0 hD
  split at k
  · rename_i hz
    have hz := szOk_ok hz
    split at k
    · rename_i q eg
      refine ⟨fun i n H => n = xs.length - i ∧ i ≤ xs.length ∧ DcWT K mg g c fk fv (wipeD ρ vs) xs q D0 S1 H1 i H, ⟨xs.length, by simp, Nat.zero_le _, S1, [], [], Step.hid s1.sub hD, s1.sub.free hD, upd_same, .nil, eg, Nat.le_refl _⟩, ?_⟩
      rintro i n H2 ⟨rfl, hi, S2, kvs, ds, st2, hs2, hd2, rv, el, hn⟩
      by_cases hlt : i < xs.length
      · obtain ⟨hgo, hyl⟩ := w.go i xs[i] S2 H2 (List.getElem?_eq_getElem hlt) st2.ss st2.sub
        refine .inr ⟨hgo, DcWT K mg g c fk fv (wipeD ρ vs) xs q D0 S1 H1 (i + 1), fun H' z => ⟨xs.length - (i + 1), by omega, rfl, hlt, z⟩, fun x H3 y => ?_⟩
        obtain ⟨S3, s3, r3⟩ := hyl x H3 y
        rw [List.drop_eq_getElem_cons hlt] at el
        unfold dcGoT at el
        split at el
        · rename_i ρ1 eg1
          have st3 := st2.trans s3
          obtain ⟨F, stF⟩ := (((hm.step s1).step st3).wipe vs).bare
          refine ⟨_, _, S3, F, wipeD ρ vs, xs[i], stF, r3, ?_⟩
          try rw [eg1]
          intro σ4 S4 F4 H4 st4 s4 hfr
          refine ⟨wipe_eq (by rw [hfr.1, L2.wipe_length]) hfr.2 hts, S4, ρ1, st4.envM, ?_⟩
          split at el
          · rename_i b ec
            try rw [ec]
            intro S5 H5 s5
            have a5 := (s3.trans s4).trans s5
            have st5 := st2.trans a5
            cases b with
            | false =>
              rw [if_neg (by decide)] at el
              show DcWT K mg g c fk fv (wipeD ρ vs) xs q D0 S1 H1 (i + 1) H5
              exact ⟨S5, kvs, ds, st5, a5.out hs2 hd2, a5.hh _ _ hd2, rv.mono a5.ss, el, by omega⟩
            | true =>
              rw [if_pos rfl] at el
              show tE K mg EF m Md.sh fk σ4 H5 _
              split at el
              · rename_i y' ey
                refine ⟨S5, ρ1, (st4.envM).step s5, ?_⟩
                try rw [ey]
                intro v S6 H6 fp s6 o _ _
                split at el
                · rename_i z' ez
                  refine ⟨S6, ρ1, ((st4.envM).step s5).step s6, ?_⟩
                  try rw [ez]
                  intro v2 S7 H7 fp2 s7 o2 _ _
                  split at el
                  · rename_i kk ek
                    have a7 := (a5.trans s6).trans s7
                    obtain ⟨b, ev, hb⟩ := keyT_ok (o.1.mono s7.ss) ek
                    have pk := putT_ok (k := kk) (rv.mono a7.ss) o2.1
                    refine ⟨kvs, kk, b, ev, s7.sub _ _ hb, a7.hh _ _ hd2, by omega, S7, putK kvs kk v2, _, (st2.trans a7).write (a7.out hs2 hd2) hD, a7.out hs2 hd2, upd_same, pk.2, ?_, by have := length_putK kvs kk v2; omega⟩
                    rw [pk.1]
                    exact el
                  · cases el
                · cases el
              · cases el
          · cases el
        · cases el
      · have e : i = xs.length := by omega
        subst e
        rw [List.drop_length] at el
        cases el
        exact .inl ⟨w.stop S2 H2 st2.ss st2.sub, k _ S2 H2 [D0] st2 ⟨D0, kvs, ds, rfl, rfl, rfl, hs2, hd2, rv⟩ (by simp) (fun a z => by
          have : a = D0 := by simpa using z
          rw [this]; exact hD)⟩
    · exact k.elim
  · exact k.elim
theorem dc_okT {σ : L2.St} {H : Hp} {Q : VK} (hts : ∀ t ∈ ts, t ∈ vs) (h : tE K mg E m .dt (fDcT vs it g c fk fv) σ H Q) :
    tDcT (tI K mg E m it) (tGD K mg m ts g) (tT K mg EF m c) (tE K mg EF m .sh fk) (tE K mg EF m .sh fv) vs σ H Q := by
  obtain ⟨S, ρ, hm, hp⟩ := h
  exact ⟨S, ρ, hm, (Post.bind hp).imp fun xs S1 H1 s1 k J w => dc_coreT hts hm s1 w k⟩
end
section
variable {X : Cx} {E : WX} {L : Lp} {m : Mds} {ts : List Nat} {N0 ps0 : List Str} {sc0 : Scope} {kx vx tg iter e : Expr} {ifs : List Expr} {scope : Scope} {own : List (Str × Nat)} {pos p p1 p2 p3 tpos : Pos} {it : Env → Res (List D)} {g : D → Env → Res Env} {c : Env → Res Bool} {fk fv fa fb : Env → Res D} {a b : Expr} {es elts : List Expr} {kk k : Nat} {fs : Env → Res (List D)}
theorem je_dcT (hr : RmU X.A) (Sc : FnScope N0 ps0 sc0) (own : List (Str × Nat)) (hi : JI X E m tg iter it)
    (hg : ∀ (s : Shared) (H : Hp) (C : Addr) (cl : List (Str × Addr)) (fp : List Addr), JG (X.blk s H scope (compEnvC scope cl C X.env) fp) m ts tg g) (ht : ∀ (s : Shared) (H : Hp) (C : Addr) (cl : List (Str × Addr)) (fp : List Addr), JTs (X.blk s H scope (compEnvC scope cl C X.env) fp) EF m ifs c)
    (hk : ∀ (s : Shared) (H : Hp) (C : Addr) (cl : List (Str × Addr)) (fp : List Addr), JE (X.blk s H scope (compEnvC scope cl C X.env) fp) EF m .sh kx fk)
    (he : ∀ (s : Shared) (H : Hp) (C : Addr) (cl : List (Str × Addr)) (fp : List Addr), JE (X.blk s H scope (compEnvC scope cl C X.env) fp) EF m .sh vx fv) (hc : X.calm = true := by rfl) (hN0 : X.N = N0 := by rfl) (hsc : X.env.scope = sc0 := by rfl) (ok : blkC N0 sc0 scope own = true := by decide +kernel) (hts : ∀ t ∈ ts, t ∈ own.map (·.2) := by decide)
    (hs : ∀ x, foldedSetIterable iter X.env x = pure x := by intro _; rfl) : JE X E m .dt (.DictComp kx vx [⟨tg, iter, ifs, 0⟩] scope pos) (fDcT (own.map (·.2)) it g c fk fv) :=
  ⟨PEimp (pe_dcT (by unfold RmU at hr; omega) (g := tGD X.K X.mg m ts g) (tt := tT X.K X.mg EF m c) (tk := tE X.K X.mg EF m .sh fk) (tv := tE X.K X.mg EF m .sh fv) hc (by rw [hN0]; exact Sc.nd) hi.pi (blkOk_by (by rw [hN0, hsc]; exact ok)) (fun s H C cl fp => (hg s H C cl fp).pg) (fun s H C cl fp => (ht s H C cl fp).pt) (fun s H C cl fp => (hk s H C cl fp).pe) (fun s H C cl fp => (he s H C cl fp).pe) hs) fun σ H Q h => dc_okT hts h⟩
theorem jt_dhasnotT (hr : RmU X.A) (ha : JE X E m .sh a fa) (hb : JE X E m .sh b fb) (hm : behindInMarks .NotIn b = false := by rfl) : JT X E m (.Compare a [.NotIn] [b] pos) (fB (f2 (dHasT true) fa fb)) := jt_cmp (op_dNotIn (by unfold RmU at hr; omega)) opd_dhasT ha hb hm
end
end Da
namespace Da
open PySem PySem.Spec L2
theorem hs_entry : entryFor table "_heapq.heapify.sift" = some Builtin.«_heapq.heapify.sift» := entryFor_of_tree (by kernel_rfl)
theorem hs_plain : plainId "_heapq.heapify.sift" = true := by decide +kernel
theorem hpush_entry : entryFor table "_heapq.heappush" = some Builtin.«_heapq.heappush» := entryFor_of_tree (by kernel_rfl)
theorem hpush_plain : plainId "_heapq.heappush" = true := by decide +kernel
theorem hpush_kind : builtinKind "_heapq.heappush" = none := by kernel_rfl
theorem hpush_args (a b : Value) : argsOk "_heapq.heappush" ⟨[a, b], []⟩ := by unfold argsOk; kernel_rfl
theorem hpop_entry : entryFor table "_heapq.heappop" = some Builtin.«_heapq.heappop» := entryFor_of_tree (by kernel_rfl)
theorem hpop_plain : plainId "_heapq.heappop" = true := by decide +kernel
theorem hpop_kind : builtinKind "_heapq.heappop" = none := by kernel_rfl
theorem hpop_args (a : Value) : argsOk "_heapq.heappop" ⟨[a], []⟩ := by unfold argsOk; kernel_rfl
theorem check_hq {M : Model} {A : Around} {E : Value → Shared → Prop} {s : Shared} {id : String} {args : List Value} {Q : Unit → Shared → Prop} (kind : builtinKind id = none) (ok : argsOk id ⟨args, []⟩) (q : Q () s) : wpAny M A (checkBuiltinCall id ⟨args, []⟩) Q E s := by
  unfold checkBuiltinCall
  rw [kind]
  unfold argsOk at ok
  cases e : Manifest.signature? id with
  | none => exact wpAny_pure q
  | some sig =>
    rw [e] at ok
    have e2 : Bind.checkArgs id sig ⟨args, []⟩ = pure () := ok
    show wpAny M A (Bind.checkArgs id sig _) Q E s
    rw [e2]
    exact wpAny_pure q
theorem hpush_check {M : Model} {A : Around} {E : Value → Shared → Prop} {s : Shared} {a b : Value} {Q : Unit → Shared → Prop} (q : Q () s) : wpAny M A (checkBuiltinCall "_heapq.heappush" ⟨[a, b], []⟩) Q E s := by
  have ok := hpush_args a b
  have kind := hpush_kind
  generalize "_heapq.heappush" = id at ok kind ⊢
  exact check_hq kind ok q
theorem hpop_check {M : Model} {A : Around} {E : Value → Shared → Prop} {s : Shared} {a : Value} {Q : Unit → Shared → Prop} (q : Q () s) : wpAny M A (checkBuiltinCall "_heapq.heappop" ⟨[a], []⟩) Q E s := by
  have ok := hpop_args a
  have kind := hpop_kind
  generalize "_heapq.heappop" = id at ok kind ⊢
  exact check_hq kind ok q
end Da
namespace Da
open PySem PySem.Spec L2
abbrev Kp := Int × Int
def ltK (a b : Kp) : Bool := decide (a.1 < b.1 ∨ (a.1 = b.1 ∧ a.2 < b.2))
section
variable {α : Type}
def swp (xs : List (α × Kp)) (i j : Nat) : List (α × Kp) := match xs[i]?, xs[j]? with
  | some x, some y => (xs.set i y).set j x
  | _, _ => xs
/-- up to its place -/
def hUp : Nat → List (α × Kp) → Nat → List (α × Kp)
  | 0, xs, _ => xs
  | f + 1, xs, pos => if pos = 0 then xs else match xs[pos]?, xs[(pos - 1) / 2]? with
    | some x, some p => if ltK x.2 p.2 = true then hUp f (swp xs ((pos - 1) / 2) pos) ((pos - 1) / 2) else xs
    | _, _ => xs
/-- the lesser child -/
def kid (xs : List (α × Kp)) (pos : Nat) : Nat := match xs[2 * pos + 1]?, xs[2 * pos + 2]? with
  | some l, some r => if ltK l.2 r.2 = true then 2 * pos + 1 else 2 * pos + 2
  | _, _ => 2 * pos + 1
/-- down to a leaf -/
def hDown : Nat → List (α × Kp) → Nat → List (α × Kp) × Nat
  | 0, xs, pos => (xs, pos)
  | f + 1, xs, pos => if pos < xs.length / 2 then hDown f (swp xs (kid xs pos) pos) (kid xs pos) else (xs, pos)
def hPush (xs : List (α × Kp)) (x : α × Kp) : List (α × Kp) := hUp (xs.length + 1) (xs ++ [x]) xs.length
def hPop (xs : List (α × Kp)) : Option (α × List (α × Kp)) := match xs with
  | [] => none
  | [x] => some (x.1, [])
  | x :: y :: t => some (x.1, let zs := ((x :: y :: t).dropLast).set 0 ((x :: y :: t).getLast (by simp)); let w := hDown zs.length zs 0; hUp zs.length w.1 w.2)
theorem swp_len {xs : List (α × Kp)} {i j : Nat} : (swp xs i j).length = xs.length := by
  unfold swp
  split <;> simp
end
section
variable {X : Cx} {A : Around} {E : Value → Shared → Prop} {s : Shared} {pins : List (Addr × Obj)} {σ : L2.St} {H : Hp} {p : Addr}
/-- the value is a pair of these numbers -/
def KV (H : Hp) (v : V) (k : Kp) : Prop := ∃ t, v = .ref t ∧ H t = some (.tup [.int k.1, .int k.2])
theorem KV.reads {v : V} {u : Value} {k : Kp} (I : Inv X pins σ H s) (h : KV H v k) (r : RelV v u) : Reads s.heap u (.tuple [.int k.1, .int k.2]) [] := by
  obtain ⟨t, rfl, ht⟩ := h
  cases r
  obtain ⟨its, rv, ⟨o, ho, hc, n, hd⟩, _⟩ := I.tuple (.inl (.inl ht))
  have e : ∃ t1 t2, its = [.int k.1 t1, .int k.2 t2] := by
    cases rv with
    | cons r1 rr =>
      cases rr with
      | cons r2 rr =>
        cases rr
        obtain ⟨t1, rfl⟩ := r1
        obtain ⟨t2, rfl⟩ := r2
        exact ⟨t1, t2, rfl⟩
  obtain ⟨t1, t2, rfl⟩ := e
  exact .tuple ho hc hd (.cons (as := []) (bs := []) (.int _ _) (.cons (as := []) (bs := []) (.int _ _) .nil))
theorem lt_pair (I : Inv X pins σ H s) {x y : V} {u v : Value} {k l : Kp} (hx : KV H x k) (hy : KV H y l) (ru : RelV x u) (rv : RelV y v) (hu : A.units + 8 < cLine) {Q : Value → Shared → Prop} (q : Q (.bool (ltK k l)) s) :
    wpAny (model X.prog X.w) A (richCompare .Lt u v) Q E s := by
  refine PySem.W.lt_data (hx.reads I ru) (hy.reads I rv) (by rfl) (fun z => nomatch z) ?_ ?_
  · simp [PyData.depth, PyData.depthAll]; omega
  · rw [PySem.W.dataLt_ii]
    exact q
/-- the list under way: its items and their numbers -/
structure HL (X : Cx) (pins : List (Addr × Obj)) (σ : L2.St) (H0 : Hp) (p : Addr) (zs : List (V × Kp)) (s : Shared) : Prop where
  inv : Inv X pins σ (upd H0 p (.lst (zs.map (·.1)))) s
  low : ∃ xs0, H0 p = some (.lst xs0)
  key : ∀ z ∈ zs, KV H0 z.1 z.2
theorem KV.ne {H0 : Hp} {v : V} {k : Kp} (h : KV H0 v k) (hp : ∃ xs0, H0 p = some (.lst xs0)) {o : HO} : KV (upd H0 p o) v k := by
  obtain ⟨t, rfl, ht⟩ := h
  obtain ⟨xs0, hp⟩ := hp
  refine ⟨t, rfl, ?_⟩
  rw [upd_ne (fun z => by subst z; rw [hp] at ht; cases ht)]
  exact ht
theorem upd_upd_hp {H0 : Hp} {o o' : HO} : upd (upd H0 p o) p o' = upd H0 p o' := by
  funext b
  by_cases h : b = p
  · subst h; rw [upd_same, upd_same]
  · rw [upd_ne h, upd_ne h, upd_ne h]
variable {H0 : Hp} {zs : List (V × Kp)}
theorem HL.obj (h : HL X pins σ H0 p zs s) : ∃ (its : List Value) (n : Nat), Vals (zs.map (·.1)) its ∧ s.heap.get? p = some { cls := .type "list", data := .seq its.toArray n } ∧ its.length = zs.length := by
  obtain ⟨its, n, r, e, _⟩ := h.inv.lst upd_same
  exact ⟨its, n, r, e, by have := r.length; rw [List.length_map] at this; exact this.symm⟩
theorem HL.at_ (h : HL X pins σ H0 p zs s) {its : List Value} (r : Vals (zs.map (·.1)) its) {i : Nat} {z : V × Kp} (hz : zs[i]? = some z) : ∃ u, its.toArray[i]? = some u ∧ RelV z.1 u := by
  obtain ⟨u, hu, ru⟩ := r.get (show (zs.map (·.1))[i]? = some z.1 by rw [List.getElem?_map, hz]; rfl)
  exact ⟨u, by simpa using hu, ru⟩
theorem HL.swap (h : HL X pins σ H0 p zs s) {its : List Value} {n : Nat} (r : Vals (zs.map (·.1)) its) (ho : s.heap.get? p = some { cls := .type "list", data := .seq its.toArray n }) {i j : Nat} {x y : V × Kp} (hx : zs[i]? = some x) (hy : zs[j]? = some y) {u v : Value} (ru : RelV x.1 u) (rv : RelV y.1 v) (hz : zs.length ≤ sizeLine) :
    HL X pins σ H0 p (swp zs i j) { s with heap := s.heap.update p (Obj.mapSeq fun xs => (xs.setIfInBounds i v).setIfInBounds j u) } := by
  have e : swp zs i j = (zs.set i y).set j x := by unfold swp; rw [hx, hy]
  refine ⟨?_, h.low, fun z hm => ?_⟩
  · have hm : (swp zs i j).map (·.1) = ((zs.map (·.1)).set i y.1).set j x.1 := by rw [e, List.map_set, List.map_set]
    have I := h.inv.lstUpd (f := Obj.mapSeq fun xs => (xs.setIfInBounds i v).setIfInBounds j u) (ys := ((zs.map (·.1)).set i y.1).set j x.1) (its' := (its.set i v).set j u) (n' := n) upd_same ho (by simp [Obj.mapSeq]) ((r.set rv i).set ru j) (by rw [List.length_set, List.length_set, List.length_map]; exact hz) s.toks
    rw [upd_upd_hp] at I
    rw [hm]
    exact I
  · rw [e] at hm
    rcases List.mem_or_eq_of_mem_set hm with z1 | z1
    · rcases List.mem_or_eq_of_mem_set z1 with z2 | z2
      · exact h.key z z2
      · rw [z2]; exact h.key y (List.mem_of_getElem? hy)
    · rw [z1]; exact h.key x (List.mem_of_getElem? hx)
theorem HL.len (h : HL X pins σ H0 p zs s) : zs.length ≤ sizeLine := by
  obtain ⟨_, _, _, _, hz⟩ := h.inv.lst upd_same
  rw [List.length_map] at hz
  exact hz
theorem sift_up {result : Value} {R : Result → Shared → Prop} (hu : A.in1.units + 8 < cLine) : ∀ (f pos : Nat) (zs : List (V × Kp)) (s : Shared), pos ≤ f → pos < zs.length → HL X pins σ H0 p zs s → (∀ s', HL X pins σ H0 p (hUp f zs pos) s' → R (.ok (.ret result)) s') →
    codeAny (model X.prog X.w) A (.builtin "_heapq.heapify.sift" ⟨[.ref p, .bool false, .bool false, rawInt pos, rawInt 0, result, rawInt (-1)], []⟩) R s := by
  have start : ∀ (pos : Nat) (zs : List (V × Kp)) (s : Shared) (its : List Value) (n : Nat), Vals (zs.map (·.1)) its → s.heap.get? p = some { cls := .type "list", data := .seq its.toArray n } →
      (pos = 0 → R (.ok (.ret result)) s) → (pos ≠ 0 → ∃ (x q : V × Kp) (u v : Value), zs[pos]? = some x ∧ zs[(pos - 1) / 2]? = some q ∧ RelV x.1 u ∧ RelV q.1 v ∧ HL X pins σ H0 p zs s ∧ its.toArray[pos]? = some u ∧ its.toArray[(pos - 1) / 2]? = some v ∧ (ltK x.2 q.2 = false → R (.ok (.ret result)) s) ∧
        (ltK x.2 q.2 = true → ∀ s', s' = { s with heap := s.heap.update p (Obj.mapSeq fun xs => (xs.setIfInBounds ((pos - 1) / 2) u).setIfInBounds pos v) } → codeAny (model X.prog X.w) A (.builtin "_heapq.heapify.sift" ⟨[.ref p, .bool false, .bool false, rawInt ((pos - 1) / 2 : Nat), rawInt 0, result, rawInt (-1)], []⟩) R s')) →
      codeAny (model X.prog X.w) A (.builtin "_heapq.heapify.sift" ⟨[.ref p, .bool false, .bool false, rawInt pos, rawInt 0, result, rawInt (-1)], []⟩) R s := by
    intro pos zs s its n r ho k0 k1
    refine codeAny_builtin hs_entry ?_
    rw [Around.under_plainId hs_plain _]
    unfold Builtin.«_heapq.heapify.sift» rawInt
    dsimp only
    refine wpAny_bind ?_
    show wpAny _ _ (seqItems? (.ref p) >>= _) _ _ _
    refine wpAny_bind (wpAny_seqItems ho rfl (wpAny_pure ?_))
    rw [if_neg (by decide)]
    by_cases h0 : pos = 0
    · subst h0
      rw [if_neg (by decide), if_pos (by decide)]
      exact wpAny_pure (k0 rfl)
    · obtain ⟨x, q, u, v, hx, hq, ru, rv, h, eu, ev, kF, kT⟩ := k1 h0
      rw [Int.toNat_natCast, if_pos (by show Int.toNat 0 < pos; simp; omega)]
      refine wpAny_bind ?_
      show wpAny _ _ (match its.toArray[pos]? with | some v => pure v | none => _) _ _ _
      rw [eu]
      refine wpAny_pure (wpAny_bind ?_)
      show wpAny _ _ (match its.toArray[(pos - 1) / 2]? with | some v => pure v | none => _) _ _ _
      rw [ev]
      refine wpAny_pure ?_
      rw [if_neg (by decide)]
      refine wpAny_bind ?_
      show wpAny _ _ (holding [u, v] _ >>= _) _ _ _
      refine wpAny_bind (wpAny_holding (wpAny_bind (lt_pair h.inv ((h.key x (List.mem_of_getElem? hx)).ne h.low) ((h.key q (List.mem_of_getElem? hq)).ne h.low) ru rv hu ?_)))
      refine wpAny_truthy_bool ?_
      refine wpAny_bind ?_
      show wpAny _ _ (seqItems? (.ref p) >>= _) _ _ _
      refine wpAny_bind (wpAny_seqItems ho rfl (wpAny_pure ?_))
      rw [if_neg (by simp)]
      refine wpAny_bind (wpAny_pure (wpAny_pure ?_))
      cases e : ltK x.2 q.2 with
      | false =>
        rw [if_neg (by decide), if_pos (by decide)]
        exact wpAny_pure (kF e)
      | true =>
        rw [if_pos rfl]
        refine wpAny_bind ?_
        show wpAny _ _ ((_ >>= _) >>= _) _ _ _
        refine wpAny_bind (wpAny_bind (wpAny_seqItems ho rfl (wpAny_pure (wpAny_bind ?_))))
        show wpAny _ _ (match its.toArray[(pos - 1) / 2]? with | some v => pure v | none => _) _ _ _
        rw [ev]
        refine wpAny_pure (wpAny_bind ?_)
        show wpAny _ _ (match its.toArray[pos]? with | some v => pure v | none => _) _ _ _
        rw [eu]
        have hsz := h.len
        have hrl := r.length
        rw [List.length_map] at hrl
        refine wpAny_pure (wpAny_updateSeq ho rfl ?_ (hz := by rw [List.size_toArray]; omega) (_hz' := by simp; omega))
        show wpAny _ _ (pure (Fin.again _)) _ _ _
        exact wpAny_pure ⟨plainId_quiet hs_plain _, kT e _ rfl⟩
  intro f
  induction f with
  | zero =>
    intro pos zs s hf hl h k
    obtain ⟨its, n, r, ho, hlen⟩ := h.obj
    exact start pos zs s its n r ho (fun _ => k s h) fun h0 => absurd (by omega) h0
  | succ f ih =>
    intro pos zs s hf hl h k
    obtain ⟨its, n, r, ho, hlen⟩ := h.obj
    refine start pos zs s its n r ho (fun h0 => k s (by unfold hUp; rw [if_pos h0]; exact h)) fun h0 => ?_
    have hx : zs[pos]? = some zs[pos] := List.getElem?_eq_getElem hl
    have hq : zs[(pos - 1) / 2]? = some (zs[(pos - 1) / 2]'(by omega)) := List.getElem?_eq_getElem (by omega)
    obtain ⟨u, eu, ru⟩ := h.at_ r hx
    obtain ⟨v, ev, rv⟩ := h.at_ r hq
    have e1 : hUp (f + 1) zs pos = if ltK zs[pos].2 (zs[(pos - 1) / 2]'(by omega)).2 = true then hUp f (swp zs ((pos - 1) / 2) pos) ((pos - 1) / 2) else zs := by
      conv => lhs; unfold hUp
      rw [if_neg h0, hx, hq]
    refine ⟨_, _, u, v, hx, hq, ru, rv, h, eu, ev, fun hf => k s (by rw [e1, hf, if_neg (by decide)]; exact h), fun ht s' hs' => ?_⟩
    subst hs'
    refine ih ((pos - 1) / 2) (swp zs ((pos - 1) / 2) pos) _ (by omega) (by rw [swp_len]; omega) (h.swap r ho hq hx rv ru h.len) fun s' h' => k s' ?_
    rw [e1, ht, if_pos rfl]
    exact h'
theorem sift_down {result : Value} {R : Result → Shared → Prop} (hu : A.in1.units + 8 < cLine) : ∀ (f pos : Nat) (zs : List (V × Kp)) (s : Shared), zs.length ≤ f + pos → pos < zs.length → HL X pins σ H0 p zs s → (∀ s', HL X pins σ H0 p (hUp zs.length (hDown f zs pos).1 (hDown f zs pos).2) s' → R (.ok (.ret result)) s') →
    codeAny (model X.prog X.w) A (.builtin "_heapq.heapify.sift" ⟨[.ref p, .bool false, .bool true, rawInt pos, rawInt 0, result, rawInt (-1)], []⟩) R s := by
  intro f
  induction f with
  | zero => intro pos zs s h1 h2; omega
  | succ f ih =>
    intro pos zs s hf hl h k
    obtain ⟨its, n, r, ho, hlen⟩ := h.obj
    refine codeAny_builtin hs_entry ?_
    rw [Around.under_plainId hs_plain _]
    unfold Builtin.«_heapq.heapify.sift» rawInt
    dsimp only
    refine wpAny_bind ?_
    show wpAny _ _ (seqItems? (.ref p) >>= _) _ _ _
    refine wpAny_bind (wpAny_seqItems ho rfl (wpAny_pure ?_))
    rw [if_pos rfl, Int.toNat_natCast, List.size_toArray, hlen]
    by_cases h2 : pos < zs.length / 2
    · rw [if_pos h2]
      have hl1 : 2 * pos + 1 < zs.length := by omega
      have hL : zs[2 * pos + 1]? = some zs[2 * pos + 1] := List.getElem?_eq_getElem hl1
      have hP : zs[pos]? = some zs[pos] := List.getElem?_eq_getElem hl
      obtain ⟨u, eu, ru⟩ := h.at_ r hL
      obtain ⟨v, ev, rv⟩ := h.at_ r hP
      have eD : hDown (f + 1) zs pos = hDown f (swp zs (kid zs pos) pos) (kid zs pos) := by
        conv => lhs; unfold hDown
        rw [if_pos h2]
      have left : kid zs pos = 2 * pos + 1 → ∀ s', s' = { s with heap := s.heap.update p (Obj.mapSeq fun xs => (xs.setIfInBounds (2 * pos + 1) v).setIfInBounds pos u) } → codeAny (model X.prog X.w) A (.builtin "_heapq.heapify.sift" ⟨[.ref p, .bool false, .bool true, rawInt ((2 * pos + 1 : Nat) : Int), rawInt 0, result, rawInt (-1)], []⟩) R s' := by
        intro ek s' hs'
        subst hs'
        refine ih (2 * pos + 1) (swp zs (2 * pos + 1) pos) _ (by rw [swp_len]; omega) (by rw [swp_len]; exact hl1) (h.swap r ho hL hP ru rv h.len) fun s' h' => k s' ?_
        rw [eD, ek]
        rw [swp_len] at h'
        exact h'
      by_cases h3 : 2 * pos + 1 + 1 < zs.length
      · rw [if_pos h3]
        have hR : zs[2 * pos + 2]? = some (zs[2 * pos + 2]'(by omega)) := List.getElem?_eq_getElem (by omega)
        obtain ⟨w, ew, rw'⟩ := h.at_ r hR
        refine wpAny_bind ?_
        show wpAny _ _ (match its.toArray[2 * pos + 1]? with | some v => pure v | none => _) _ _ _
        rw [eu]
        refine wpAny_pure (wpAny_bind ?_)
        show wpAny _ _ (match its.toArray[2 * pos + 2]? with | some v => pure v | none => _) _ _ _
        rw [ew]
        refine wpAny_pure ?_
        rw [if_neg (by decide)]
        refine wpAny_bind ?_
        show wpAny _ _ (holding [u, w] _ >>= _) _ _ _
        refine wpAny_bind (wpAny_holding (wpAny_bind (lt_pair h.inv ((h.key _ (List.mem_of_getElem? hL)).ne h.low) ((h.key _ (List.mem_of_getElem? hR)).ne h.low) ru rw' hu ?_)))
        refine wpAny_truthy_bool ?_
        refine wpAny_bind ?_
        show wpAny _ _ (seqItems? (.ref p) >>= _) _ _ _
        refine wpAny_bind (wpAny_seqItems ho rfl (wpAny_pure ?_))
        rw [if_neg (by simp [hlen])]
        refine wpAny_bind (wpAny_pure (wpAny_pure ?_))
        cases e : ltK zs[2 * pos + 1].2 (zs[2 * pos + 2]'(by omega)).2 with
        | true =>
          have ek : kid zs pos = 2 * pos + 1 := by unfold kid; rw [hL, hR]; dsimp only; rw [e, if_pos rfl]
          rw [if_neg (by decide)]
          refine wpAny_bind ?_
          show wpAny _ _ ((_ >>= _) >>= _) _ _ _
          refine wpAny_bind (wpAny_bind (wpAny_seqItems ho rfl (wpAny_pure (wpAny_bind ?_))))
          show wpAny _ _ (match its.toArray[2 * pos + 1]? with | some v => pure v | none => _) _ _ _
          rw [eu]
          refine wpAny_pure (wpAny_bind ?_)
          show wpAny _ _ (match its.toArray[pos]? with | some v => pure v | none => _) _ _ _
          rw [ev]
          have hsz := h.len
          refine wpAny_pure (wpAny_updateSeq ho rfl ?_ (hz := by rw [List.size_toArray]; omega) (_hz' := by simp; omega))
          show wpAny _ _ (pure (Fin.again _)) _ _ _
          exact wpAny_pure ⟨plainId_quiet hs_plain _, left ek _ rfl⟩
        | false =>
          have ek : kid zs pos = 2 * pos + 2 := by unfold kid; rw [hL, hR]; dsimp only; rw [e, if_neg (by decide)]
          rw [if_pos (by decide)]
          refine wpAny_bind ?_
          show wpAny _ _ ((_ >>= _) >>= _) _ _ _
          refine wpAny_bind (wpAny_bind (wpAny_seqItems ho rfl (wpAny_pure (wpAny_bind ?_))))
          show wpAny _ _ (match its.toArray[2 * pos + 2]? with | some v => pure v | none => _) _ _ _
          rw [ew]
          refine wpAny_pure (wpAny_bind ?_)
          show wpAny _ _ (match its.toArray[pos]? with | some v => pure v | none => _) _ _ _
          rw [ev]
          have hsz := h.len
          refine wpAny_pure (wpAny_updateSeq ho rfl ?_ (hz := by rw [List.size_toArray]; omega) (_hz' := by simp; omega))
          show wpAny _ _ (pure (Fin.again _)) _ _ _
          refine wpAny_pure ⟨plainId_quiet hs_plain _, ?_⟩
          refine ih (2 * pos + 2) (swp zs (2 * pos + 2) pos) _ (by rw [swp_len]; omega) (by rw [swp_len]; omega) (h.swap r ho hR hP rw' rv h.len) fun s' h' => k s' ?_
          rw [eD, ek]
          rw [swp_len] at h'
          exact h'
      · rw [if_neg h3]
        have ek : kid zs pos = 2 * pos + 1 := by unfold kid; rw [hL, List.getElem?_eq_none_iff.mpr (show zs.length ≤ 2 * pos + 2 by omega)]
        refine wpAny_bind ?_
        show wpAny _ _ ((_ >>= _) >>= _) _ _ _
        refine wpAny_bind (wpAny_bind (wpAny_seqItems ho rfl (wpAny_pure (wpAny_bind ?_))))
        show wpAny _ _ (match its.toArray[2 * pos + 1]? with | some v => pure v | none => _) _ _ _
        rw [eu]
        refine wpAny_pure (wpAny_bind ?_)
        show wpAny _ _ (match its.toArray[pos]? with | some v => pure v | none => _) _ _ _
        rw [ev]
        have hsz := h.len
        refine wpAny_pure (wpAny_updateSeq ho rfl ?_ (hz := by rw [List.size_toArray]; omega) (_hz' := by simp; omega))
        show wpAny _ _ (pure (Fin.again _)) _ _ _
        exact wpAny_pure ⟨plainId_quiet hs_plain _, left ek _ rfl⟩
    · rw [if_neg h2]
      show wpAny _ _ (pure (Fin.again _)) _ _ _
      refine wpAny_pure ⟨plainId_quiet hs_plain _, ?_⟩
      have eD : hDown (f + 1) zs pos = (zs, pos) := by
        conv => lhs; unfold hDown
        rw [if_neg h2]
      exact sift_up hu zs.length pos zs s (by omega) hl h fun s' h' => k s' (by rw [eD]; exact h')
theorem isList_hq (h : HL X pins σ H0 p zs s) {M : Model} {Q : Bool → Shared → Prop} (q : Q true s) : wpAny M A (isInstance (.ref p) (.type "list")) Q E s := by
  obtain ⟨its, n, r, ho, hlen⟩ := h.obj
  exact wpAny_isInstance (T := "list") ⟨_, ho, rfl⟩ (by rw [isSubtype_type]; kernel_rfl) q
theorem push_call {v : V} {k : Kp} {u : Value} {Q : Value → Shared → Prop} (hu : A.in1.units + 8 < cLine) (h : HL X pins σ H0 p zs s) (hk : KV H0 v k) (ru : RelV v u) (hz : zs.length + 1 ≤ sizeLine) (q : ∀ s', HL X pins σ H0 p (hPush zs (v, k)) s' → Q .none s') :
    wpAny (model X.prog X.w) A (call (.builtin "_heapq.heappush") [.ref p, u]) Q E s := by
  refine wpAny_call (codeAny_call_builtin hpush_plain hpush_entry (hpush_check ?_))
  obtain ⟨its, n, r, ho, hlen⟩ := h.obj
  unfold Builtin.«_heapq.heappush»
  refine wpAny_bind ?_
  show wpAny _ _ (pure () >>= _) _ _ _
  refine wpAny_bind (wpAny_pure ?_)
  show wpAny _ _ (pure () >>= _) _ _ _
  refine wpAny_bind (wpAny_pure ?_)
  show wpAny _ _ (_ >>= fun a => pure (_, a, u)) _ _ _
  refine wpAny_bind ?_
  show wpAny _ _ (isInstance (.ref p) (.type "list") >>= _) _ _ _
  refine wpAny_bind (isList_hq h ?_)
  rw [if_pos rfl]
  refine wpAny_pure (wpAny_pure ?_)
  dsimp only
  have hrl := r.length
  rw [List.length_map] at hrl
  have hI : Inv X pins σ (upd (upd H0 p (.lst (zs.map (·.1)))) p (.lst (zs.map (·.1) ++ [v]))) { s with heap := s.heap.update p (Obj.mapSeq (·.push u)), toks := s.toks } :=
    h.inv.lstUpd (f := Obj.mapSeq (·.push u)) (its' := its ++ [u]) (n' := n + 1) upd_same ho (by simp [Obj.mapSeq]) (r.append (.cons ru .nil)) (by rw [List.length_append, List.length_map]; simp; exact hz) s.toks
  have h2 : HL X pins σ H0 p (zs ++ [(v, k)]) { s with heap := s.heap.update p (Obj.mapSeq (·.push u)) } := by
    refine ⟨?_, h.low, fun z hz => ?_⟩
    · rw [upd_upd_hp] at hI
      rw [List.map_append]
      exact hI
    · rcases List.mem_append.mp hz with z1 | z1
      · exact h.key z z1
      · rw [List.mem_singleton.mp z1]; exact hk
  refine wpAny_bind (wpAny_updateSeq ho rfl ?_ (hz := by rw [List.size_toArray]; omega) (_hz' := by simp; omega))
  obtain ⟨its2, n2, r2, ho2, hlen2⟩ := h2.obj
  refine wpAny_bind ?_
  show wpAny _ _ (seqItems? (.ref p) >>= _) _ _ _
  refine wpAny_bind (wpAny_seqItems ho2 rfl (wpAny_pure ?_))
  show wpAny _ _ (pure (Fin.again _)) _ _ _
  refine wpAny_pure ⟨plainId_quiet hs_plain _, ?_⟩
  have e : its2.toArray.size - 1 = zs.length := by rw [List.size_toArray, hlen2, List.length_append]; simp
  rw [e]
  exact sift_up hu (zs.length + 1) zs.length (zs ++ [(v, k)]) _ (by omega) (by simp) h2 fun s' h' => q s' h'
theorem pop_call {Q : Value → Shared → Prop} (hu : A.in1.units + 8 < cLine) (h : HL X pins σ H0 p zs s) {x : V} {ws : List (V × Kp)} (hp : hPop zs = some (x, ws)) (q : ∀ u s', RelV x u → HL X pins σ H0 p ws s' → Q u s') :
    wpAny (model X.prog X.w) A (call (.builtin "_heapq.heappop") [.ref p]) Q E s := by
  refine wpAny_call (codeAny_call_builtin hpop_plain hpop_entry (hpop_check ?_))
  obtain ⟨its, n, r, ho, hlen⟩ := h.obj
  have hsz := h.len
  unfold Builtin.«_heapq.heappop»
  show wpAny _ _ (_ >>= _) _ _ _
  refine wpAny_bind ?_
  show wpAny _ _ (_ >>= _) _ _ _
  refine wpAny_bind ?_
  show wpAny _ _ (pure () >>= _) _ _ _
  refine wpAny_bind (wpAny_pure (wpAny_pure ?_))
  refine wpAny_bind ?_
  show wpAny _ _ (isInstance (.ref p) (.type "list") >>= _) _ _ _
  refine wpAny_bind (isList_hq h ?_)
  rw [if_pos rfl]
  refine wpAny_pure (wpAny_pure ?_)
  dsimp only
  refine wpAny_bind ?_
  show wpAny _ _ (seqItems? (.ref p) >>= _) _ _ _
  refine wpAny_bind (wpAny_seqItems ho rfl (wpAny_pure ?_))
  cases zs with
  | nil => cases hp
  | cons z zt =>
    have hrl := r.length
    rw [List.length_map] at hrl
    have hz : (z :: zt) ≠ [] := fun z => nomatch z
    have hi : its ≠ [] := fun e => by rw [e] at hlen; simp at hlen
    have eb : its.toArray.back? = some (its.getLast hi) := by
      rw [List.back?_toArray, List.getLast?_eq_some_getLast hi]
    rw [eb]
    dsimp only
    have rl : RelV ((z :: zt).getLast hz).1 (its.getLast hi) := by
      have hk : (z :: zt)[(z :: zt).length - 1]? = some ((z :: zt).getLast hz) := by rw [← List.getLast?_eq_getElem?, List.getLast?_eq_some_getLast hz]
      obtain ⟨u, hu', ru⟩ := h.at_ r hk
      have : its.toArray[(z :: zt).length - 1]? = some (its.getLast hi) := by
        rw [List.getElem?_toArray, ← hlen, ← List.getLast?_eq_getElem?, List.getLast?_eq_some_getLast hi]
      rw [this] at hu'
      cases hu'
      exact ru
    have hI : Inv X pins σ (upd (upd H0 p (.lst ((z :: zt).map (·.1)))) p (.lst (((z :: zt).dropLast).map (·.1)))) { s with heap := s.heap.update p (Obj.mapSeq (·.pop)), toks := s.toks } := by
      have hne : ¬ its.length - 1 = its.length := by have := List.length_pos_iff.mpr hi; omega
      refine h.inv.lstUpd (f := Obj.mapSeq (·.pop)) (its' := its.dropLast) (n' := n + 1) upd_same ho (by simp [Obj.mapSeq, hne]) ?_ (by rw [List.length_map, List.length_dropLast]; omega) s.toks
      rw [List.map_dropLast, List.dropLast_eq_take, List.dropLast_eq_take, List.length_map, hlen]
      exact r.take _
    have h2 : HL X pins σ H0 p ((z :: zt).dropLast) { s with heap := s.heap.update p (Obj.mapSeq (·.pop)) } := by
      refine ⟨?_, h.low, fun y hy => h.key y (List.dropLast_subset _ hy)⟩
      rw [upd_upd_hp] at hI
      exact hI
    refine wpAny_bind (wpAny_updateSeq ho rfl ?_ (hz := by rw [List.size_toArray]; omega) (_hz' := by simp; omega))
    cases zt with
    | nil =>
      have e1 : its.toArray.size = 1 := by rw [List.size_toArray, hlen]; rfl
      rw [e1, if_pos (show ((1 : Nat) == 1) = true from rfl)]
      cases hp
      exact wpAny_pure (q _ _ rl h2)
    | cons y t =>
      have e1 : (its.toArray.size == 1) = false := by rw [List.size_toArray, hlen]; simp
      rw [e1, if_neg (by decide)]
      obtain ⟨u0, eu0, ru0⟩ := h.at_ r (i := 0) (z := z) rfl
      refine wpAny_bind ?_
      show wpAny _ _ (match its.toArray[0]? with | some v => pure v | none => _) _ _ _
      rw [eu0]
      refine wpAny_pure ?_
      obtain ⟨its2, n2, r2, ho2, hlen2⟩ := h2.obj
      have hsz2 := h2.len
      have hrl2 := r2.length
      have hmem : (z :: y :: t).getLast hz ∈ z :: y :: t := List.getLast_mem hz
      generalize ez : (z :: y :: t).getLast hz = l at rl hmem
      have hI2 : Inv X pins σ (upd (upd H0 p (.lst (((z :: y :: t).dropLast).map (·.1)))) p (.lst ((((z :: y :: t).dropLast).set 0 l).map (·.1)))) { s with heap := (s.heap.update p (Obj.mapSeq (·.pop))).update p (Obj.mapSeq (·.setIfInBounds 0 (its.getLast hi))), toks := s.toks } := by
        refine h2.inv.lstUpd (f := Obj.mapSeq (·.setIfInBounds 0 (its.getLast hi))) (its' := its2.set 0 (its.getLast hi)) (n' := n2) upd_same ho2 (by simp [Obj.mapSeq]) ?_ (by rw [List.length_map, List.length_set]; exact hsz2) s.toks
        rw [List.map_set]
        exact r2.set rl 0
      have h3 : HL X pins σ H0 p (((z :: y :: t).dropLast).set 0 l) { s with heap := (s.heap.update p (Obj.mapSeq (·.pop))).update p (Obj.mapSeq (·.setIfInBounds 0 (its.getLast hi))) } := by
        refine ⟨?_, h.low, fun w hw => ?_⟩
        · rw [upd_upd_hp] at hI2
          exact hI2
        · rcases List.mem_or_eq_of_mem_set hw with z1 | z1
          · exact h.key w (List.dropLast_subset _ z1)
          · rw [z1]; exact h.key l hmem
      refine wpAny_bind (wpAny_updateSeq ho2 rfl ?_ (hz := by rw [List.size_toArray, hlen2]; omega) (_hz' := by simp; omega))
      show wpAny _ _ (pure (Fin.again _)) _ _ _
      refine wpAny_pure ⟨plainId_quiet hs_plain _, ?_⟩
      have el : (((z :: y :: t).dropLast).set 0 l).length = t.length + 1 := by simp
      have ew : x = z.1 ∧ ws = hUp (((z :: y :: t).dropLast).set 0 l).length (hDown (((z :: y :: t).dropLast).set 0 l).length (((z :: y :: t).dropLast).set 0 l) 0).1 (hDown (((z :: y :: t).dropLast).set 0 l).length (((z :: y :: t).dropLast).set 0 l) 0).2 := by
        rw [← ez]
        cases hp
        exact ⟨rfl, rfl⟩
      obtain ⟨rfl, rfl⟩ := ew
      exact sift_down hu _ 0 (((z :: y :: t).dropLast).set 0 l) _ (by omega) (by omega) h3 fun s' h' => q _ _ ru0 h'
end
end Da
namespace Da
open PySem PySem.Spec L2
section
variable {α β : Type} (g : α → β)
def mp (xs : List (α × Kp)) : List (β × Kp) := xs.map fun z => (g z.1, z.2)
theorem mp_at {xs : List (α × Kp)} {i : Nat} : (mp g xs)[i]? = (xs[i]?).map fun z => (g z.1, z.2) := by unfold mp; rw [List.getElem?_map]
theorem mp_len {xs : List (α × Kp)} : (mp g xs).length = xs.length := by unfold mp; rw [List.length_map]
theorem swp_mp (xs : List (α × Kp)) (i j : Nat) : swp (mp g xs) i j = mp g (swp xs i j) := by
  unfold swp
  rw [mp_at, mp_at]
  cases xs[i]? with
  | none => rfl
  | some x =>
    cases xs[j]? with
    | none => rfl
    | some y => simp only [Option.map_some, mp, List.map_set]
theorem kid_mp (xs : List (α × Kp)) (pos : Nat) : kid (mp g xs) pos = kid xs pos := by
  unfold kid
  rw [mp_at, mp_at]
  cases xs[2 * pos + 1]? with
  | none => rfl
  | some x =>
    cases xs[2 * pos + 2]? with
    | none => rfl
    | some y => rfl
theorem hUp_mp : ∀ (f : Nat) (xs : List (α × Kp)) (pos : Nat), hUp f (mp g xs) pos = mp g (hUp f xs pos)
  | 0, _, _ => rfl
  | f + 1, xs, pos => by
    unfold hUp
    rw [mp_at, mp_at]
    split
    · rfl
    · cases xs[pos]? with
      | none => rfl
      | some x =>
        cases xs[(pos - 1) / 2]? with
        | none => rfl
        | some y =>
          simp only [Option.map_some]
          split
          · rw [swp_mp, hUp_mp f]
          · rfl
theorem hDown_mp : ∀ (f : Nat) (xs : List (α × Kp)) (pos : Nat), hDown f (mp g xs) pos = (mp g (hDown f xs pos).1, (hDown f xs pos).2)
  | 0, _, _ => rfl
  | f + 1, xs, pos => by
    unfold hDown
    rw [mp_len, kid_mp, swp_mp]
    split
    · exact hDown_mp f _ _
    · rfl
theorem hPush_mp (xs : List (α × Kp)) (x : α × Kp) : hPush (mp g xs) (g x.1, x.2) = mp g (hPush xs x) := by
  unfold hPush
  rw [mp_len]
  have e : mp g xs ++ [(g x.1, x.2)] = mp g (xs ++ [x]) := by unfold mp; rw [List.map_append]; rfl
  rw [e, hUp_mp]
theorem hPop_mp : ∀ xs : List (α × Kp), hPop (mp g xs) = (hPop xs).map fun w => (g w.1, mp g w.2)
  | [] => rfl
  | [x] => rfl
  | x :: y :: t => by
    have e : ((mp g (x :: y :: t)).dropLast).set 0 ((mp g (x :: y :: t)).getLast (by simp [mp])) = mp g (((x :: y :: t).dropLast).set 0 ((x :: y :: t).getLast (by simp))) := by
      unfold mp
      rw [List.map_set, List.map_dropLast, List.getLast_map]
    show some (g x.1, _) = some (g x.1, _)
    congr 2
    show hUp (((mp g (x :: y :: t)).dropLast).set 0 ((mp g (x :: y :: t)).getLast (by simp [mp]))).length (hDown (((mp g (x :: y :: t)).dropLast).set 0 ((mp g (x :: y :: t)).getLast (by simp [mp]))).length (((mp g (x :: y :: t)).dropLast).set 0 ((mp g (x :: y :: t)).getLast (by simp [mp]))) 0).1 (hDown (((mp g (x :: y :: t)).dropLast).set 0 ((mp g (x :: y :: t)).getLast (by simp [mp]))).length (((mp g (x :: y :: t)).dropLast).set 0 ((mp g (x :: y :: t)).getLast (by simp [mp]))) 0).2 = _
    rw [e, mp_len, hDown_mp, hUp_mp]
end
section
variable {α : Type}
theorem swp_mem {xs : List (α × Kp)} {i j : Nat} {z : α × Kp} (h : z ∈ swp xs i j) : z ∈ xs := by
  unfold swp at h
  split at h
  · rename_i x y hx hy
    rcases List.mem_or_eq_of_mem_set h with z1 | z1
    · rcases List.mem_or_eq_of_mem_set z1 with z2 | z2
      · exact z2
      · rw [z2]; exact List.mem_of_getElem? hy
    · rw [z1]; exact List.mem_of_getElem? hx
  · exact h
theorem hUp_mem : ∀ {f : Nat} {xs : List (α × Kp)} {pos : Nat} {z : α × Kp}, z ∈ hUp f xs pos → z ∈ xs
  | 0, _, _, _, h => h
  | f + 1, xs, pos, z, h => by
    unfold hUp at h
    split at h
    · exact h
    · split at h
      · split at h
        · exact swp_mem (hUp_mem h)
        · exact h
      · exact h
theorem hDown_mem : ∀ {f : Nat} {xs : List (α × Kp)} {pos : Nat} {z : α × Kp}, z ∈ (hDown f xs pos).1 → z ∈ xs
  | 0, _, _, _, h => h
  | f + 1, xs, pos, z, h => by
    unfold hDown at h
    split at h
    · exact swp_mem (hDown_mem h)
    · exact h
theorem hPush_mem {xs : List (α × Kp)} {x z : α × Kp} (h : z ∈ hPush xs x) : z ∈ xs ∨ z = x := by
  rcases List.mem_append.mp (hUp_mem h) with z1 | z1
  · exact .inl z1
  · exact .inr (List.mem_singleton.mp z1)
theorem hPop_mem {xs ws : List (α × Kp)} {a : α} (h : hPop xs = some (a, ws)) : (∃ k, (a, k) ∈ xs) ∧ ∀ z ∈ ws, z ∈ xs := by
  match xs, h with
  | [x], h => cases h; exact ⟨⟨x.2, List.mem_cons_self⟩, fun z hz => nomatch hz⟩
  | x :: y :: t, h =>
    cases h
    refine ⟨⟨x.2, List.mem_cons_self⟩, fun z hz => ?_⟩
    have h1 := hDown_mem (hUp_mem hz)
    rcases List.mem_or_eq_of_mem_set h1 with z1 | z1
    · exact List.dropLast_subset _ z1
    · rw [z1]; exact List.getLast_mem _
end
def rHPush : List V → Hp → VK → Prop := fun vs H Q => ∃ (p : Addr) (v : V) (k : Kp) (zs : List (V × Kp)), vs = [.ref p, v] ∧ H p = some (.lst (zs.map (·.1))) ∧ (∀ z ∈ zs, KV H z.1 z.2) ∧ KV H v k ∧ zs.length + 1 ≤ sizeLine ∧ Q .non (upd H p (.lst ((hPush zs (v, k)).map (·.1))))
def rHPop : List V → Hp → VK → Prop := fun vs H Q => ∃ (p : Addr) (zs ws : List (V × Kp)) (x : V), vs = [.ref p] ∧ H p = some (.lst (zs.map (·.1))) ∧ (∀ z ∈ zs, KV H z.1 z.2) ∧ hPop zs = some (x, ws) ∧ Q x (upd H p (.lst (ws.map (·.1))))
section
variable {X : Cx}
theorem upd_id {H : Hp} {p : Addr} {o : HO} (h : H p = some o) : upd H p o = H := by
  funext b
  by_cases e : b = p
  · subst e; rw [upd_same, h]
  · rw [upd_ne e]
theorem cr_hpush (hu : RmU X.A) : CallR X (.builtin "_heapq.heappush") rHPush := by
  intro pins s σ H vs us Q I r h
  obtain ⟨p, v, k, zs, rfl, hp, hk, hv, hz, q⟩ := h
  cases r with
  | cons r1 rr =>
    cases rr with
    | cons r2 rr =>
      cases rr
      cases r1
      have hu1 : X.A.in1.units + 8 < cLine := by show X.A.units + 1 + 8 < cLine; unfold RmU at hu; omega
      exact push_call hu1 (H0 := H) ⟨by rw [upd_id hp]; exact I, ⟨_, hp⟩, hk⟩ hv r2 hz fun s' h' => ⟨.non, _, h'.inv, rfl, q⟩
theorem cr_hpop (hu : RmU X.A) : CallR X (.builtin "_heapq.heappop") rHPop := by
  intro pins s σ H vs us Q I r h
  obtain ⟨p, zs, ws, x, rfl, hp, hk, hq, q⟩ := h
  cases r with
  | cons r1 rr =>
    cases rr
    cases r1
    have hu1 : X.A.in1.units + 8 < cLine := by show X.A.units + 1 + 8 < cLine; unfold RmU at hu; omega
    exact pop_call hu1 (H0 := H) ⟨by rw [upd_id hp]; exact I, ⟨_, hp⟩, hk⟩ hq fun u s' ru h' => ⟨x, _, h'.inv, ru, q⟩
end
end Da
namespace Da
open PySem PySem.Spec L2
def keyK : D → Option Kp
  | .tup [.int a, .int b] => some (a, b)
  | _ => none
def keysK : List D → Option (List (D × Kp))
  | [] => some []
  | d :: ds => match keyK d, keysK ds with
    | some k, some zs => some ((d, k) :: zs)
    | _, _ => none
theorem keyK_ok {d : D} {k : Kp} (h : keyK d = some k) : d = .tup [.int k.1, .int k.2] := by
  unfold keyK at h
  split at h
  · cases h; rfl
  · cases h
section
variable {K : PySem.W.Frag} {mg : Str → Option Value} {S H : Hp}
theorem kv_of {v : V} {d : D} {k : Kp} (hs : Same S H) (r : Rep K mg S v d) (h : keyK d = some k) : KV H v k := by
  rw [keyK_ok h] at r
  obtain ⟨a, us, rfl, ha, ru⟩ := r.of_tupS
  have e := ru.ints (ns := [k.1, k.2])
  exact ⟨a, rfl, by rw [hs _ _ ha, e]; rfl⟩
/-- values, data, numbers -/
theorem trip : ∀ {vs : List V} {xs : List D} {zs : List (D × Kp)}, RepL K mg S vs xs → keysK xs = some zs → ∃ T : List ((V × D) × Kp), T.map (fun z => z.1.1) = vs ∧ mp Prod.snd T = zs ∧ ∀ z ∈ T, Rep K mg S z.1.1 z.1.2 ∧ keyK z.1.2 = some z.2
  | [], [], zs, _, h => by cases h; exact ⟨[], rfl, rfl, fun z hz => nomatch hz⟩
  | [], _ :: _, _, r, _ => by have := r.len; simp at this
  | _ :: _, [], _, r, _ => by have := r.len; simp at this
  | v :: vs, d :: ds, zs, r, h => by
    unfold keysK at h
    split at h
    · rename_i k zs' hk hz
      cases h
      obtain ⟨T, e1, e2, e3⟩ := trip r.tail hz
      refine ⟨((v, d), k) :: T, by rw [List.map_cons, e1], ?_, fun z hm => ?_⟩
      · show _ :: mp Prod.snd T = _
        rw [e2]
      · rcases List.mem_cons.mp hm with rfl | hm
        · exact ⟨r.head, hk⟩
        · exact e3 z hm
    · cases h
theorem rep_trip {T : List ((V × D) × Kp)} (h : ∀ z ∈ T, Rep K mg S z.1.1 z.1.2) : RepL K mg S (T.map fun z => z.1.1) ((mp Prod.snd T).map (·.1)) := by
  refine ⟨by simp [mp], fun i v d a b => ?_⟩
  rw [List.getElem?_map] at a
  rw [List.getElem?_map, mp_at] at b
  cases e : T[i]? with
  | none => rw [e] at a; cases a
  | some z =>
    rw [e] at a b
    cases a; cases b
    exact h z (List.mem_of_getElem? e)
end
def fHPush (i : Nat) (fe : Env → Res D) : FS := fun ρ => match ρ[i]? with
  | some (some (.lst xs)) => lift (fe ρ) ρ fun d => match keyK d, keysK xs with
    | some k, some zs => if szOk (xs.length + 1) = true then .ok (.nx (ρ.set i (some (.lst ((hPush zs (d, k)).map (·.1)))))) else .er
    | _, _ => .er
  | _ => .er
def fHPop (i : Nat) : Env → Res (D × Env) := fun ρ => match ρ[i]? with
  | some (some (.lst xs)) => (match keysK xs with
    | some zs => (match hPop zs with
      | some (d, ws) => .ok (d, ρ.set i (some (.lst (ws.map (·.1)))))
      | none => .er)
    | none => .er)
  | _ => .er
/-- tg = e, e changes its own slot -/
def fAsgX (fx : Env → Res (D × Env)) (g : D → Env → Res Env) : FS := fun ρ => match fx ρ with
  | .ok (d, ρ1) => (match g d ρ1 with
    | .ok ρ2 => .ok (.nx ρ2)
    | _ => .er)
  | _ => .er
section
variable {X : Cx} {E : WX} {L : Lp} {m : Mds} {e : Expr} {f : Env → Res D} {fx : Env → Res (D × Env)} {x : Str} {pos p p1 p3 : Pos}
theorem js_hpush (i : Nat) (hr : RmU X.A) (hb : X.mg "heappush" = some (.builtin "_heapq.heappush")) (he : JE X E m .sh e f) (hmd : IsOw (mdAt m i) := by first | exact .inl rfl | exact .inr ⟨_, rfl⟩) (hl : i < m.length := by first | decide | simp) (hN : X.N[i]? = some x := by rfl) (hv : Vis X.env.scope x := by first | exact Or.inl rfl | exact Or.inr (Or.inl rfl) | exact Or.inr (Or.inr rfl))
    (hd : (x == ("__debug__" : Str)) = false := by decide) (hcd : (x == ("__classdict__" : Str)) = false := by decide) (hg : Gl X "heappush" := by rfl)
    (he2 : starEach [.Name x p1, e] X.env = (false, eval (.Name x p1) X.env) :: starEach [e] X.env := by rfl) (he3 : starEach [e] X.env = (false, eval e X.env) :: starEach [] X.env := by rfl) (hpl : (backTo p3 (starEach [e] X.env)).any (·.1) = false := by rfl)
    (hs : swapsWith (.Call (.Name "heappush" p) [.Name x p1, e] [] p3) none pos.line X.env = pure false := by rfl) :
    JS X E L m m (.Expr (.Call (.Name "heappush" p) [.Name x p1, e] [] p3) pos) (fHPush i f) := by
  refine ⟨PSimp (ps_expr (pe_callBfun (cr_hpush hr) hg hb (pa_cons (pe_var hN hv hd hcd) (pa_cons he.pe pa_nil (hs := he3)) (hs := he2)) (by decide) he2 hpl) hs) fun Dn σ H h => ?_⟩
  obtain ⟨S0, H0, ρ, ⟨S, Fp, st⟩, q⟩ := h
  unfold fHPush at q
  split at q
  · rename_i xs exs
    obtain ⟨pa, vs, ds, eds, e1, e2, e3, e4, e5⟩ := st.own hmd exs
    refine ⟨_, e2, S, ρ, st.envM, (lift_post st q).post fun d v S1 H1 s1 r k1 => ?_⟩
    have st1 := st.step s1
    obtain ⟨pa', vs, ds, eds, e1, e2', e3, e4, e5⟩ := st1.own hmd exs
    cases eds
    rw [e2] at e2'
    cases e2'
    split at k1
    · rename_i k zs ek ez
      split at k1
      · rename_i hz
        obtain ⟨T, t1, t2, t3⟩ := trip e5 ez
        refine ⟨pa, v, k, mp Prod.fst T, rfl, ?_, fun z hm => ?_, kv_of st1.1.sub r ek, ?_, ?_⟩
        · rw [e4, ← t1]
          congr 2
          simp [mp]
        · obtain ⟨w, hw, rfl⟩ := List.mem_map.mp hm
          exact kv_of st1.1.sub (t3 w hw).1 (t3 w hw).2
        · have := szOk_lt hz
          have e6 := e5.len
          rw [mp_len]
          have e7 : T.length = vs.length := by rw [← t1, List.length_map]
          omega
        · have eV := hPush_mp Prod.fst T ((v, d), k)
          have eD := hPush_mp Prod.snd T ((v, d), k)
          rw [t2] at eD
          rw [show hPush (mp Prod.fst T) (v, k) = mp Prod.fst (hPush T ((v, d), k)) from eV]
          have hT : ∀ z ∈ hPush T ((v, d), k), Rep X.K X.mg S1 z.1.1 z.1.2 := fun z hm => by
            rcases hPush_mem hm with z1 | z1
            · exact (t3 z z1).1
            · rw [z1]; exact r
          have rT := rep_trip hT
          rw [← eD] at rT
          have ev : (mp Prod.fst (hPush T ((v, d), k))).map (·.1) = (hPush T ((v, d), k)).map fun z => z.1.1 := by simp [mp]
          rw [ev]
          exact k1 _ _ (st1.write hl hmd exs e1 e2 e3 e4 rT).stM
      · exact k1.elim
    · exact k1.elim
  · exact q.elim
theorem jx_hpop (i : Nat) (hr : RmU X.A) (hb : X.mg "heappop" = some (.builtin "_heapq.heappop")) (hmd : IsOw (mdAt m i) := by first | exact .inl rfl | exact .inr ⟨_, rfl⟩) (hl : i < m.length := by first | decide | simp) (hN : X.N[i]? = some x := by rfl) (hv : Vis X.env.scope x := by first | exact Or.inl rfl | exact Or.inr (Or.inl rfl) | exact Or.inr (Or.inr rfl))
    (hd : (x == ("__debug__" : Str)) = false := by decide) (hcd : (x == ("__classdict__" : Str)) = false := by decide) (hg : Gl X "heappop" := by rfl)
    (he2 : starEach [.Name x p1] X.env = (false, eval (.Name x p1) X.env) :: starEach [] X.env := by rfl) (hpl : (backTo p3 (starEach [] X.env)).any (·.1) = false := by rfl) :
    JX X m (.Call (.Name "heappop" p) [.Name x p1] [] p3) (fHPop i) := by
  refine ⟨PEimp (pe_callBfun (cr_hpop hr) hg hb (pa_cons (pe_var hN hv hd hcd) pa_nil) (by decide) he2 hpl) fun σ H Q h => ?_⟩
  obtain ⟨S0, H0, S, Fp, ρ, st, q⟩ := h
  unfold fHPop at q
  split at q
  · rename_i d ρ1 er
    split at er
    · rename_i xs exs
      obtain ⟨pa, vs, ds, eds, e1, e2, e3, e4, e5⟩ := st.own hmd exs
      cases eds
      split at er
      · rename_i zs ez
        split at er
        · rename_i y ws ey
          cases er
          obtain ⟨T, t1, t2, t3⟩ := trip e5 ez
          have eD := hPop_mp Prod.snd T
          rw [t2, ey] at eD
          have eV := hPop_mp Prod.fst T
          cases eT : hPop T with
          | none => rw [eT] at eD; cases eD
          | some w =>
            rw [eT] at eD eV
            obtain ⟨⟨v, dd⟩, wT⟩ := w
            simp only [Option.map_some] at eD eV
            injection eD with eD
            injection eD with eD1 eD2
            subst eD1 eD2
            obtain ⟨⟨k, hm⟩, hall⟩ := hPop_mem eT
            refine ⟨_, e2, pa, mp Prod.fst T, mp Prod.fst wT, v, rfl, ?_, fun z hz => ?_, eV, ?_⟩
            · rw [e4, ← t1]
              congr 2
              simp [mp]
            · obtain ⟨w, hw, rfl⟩ := List.mem_map.mp hz
              exact kv_of st.1.sub (t3 w hw).1 (t3 w hw).2
            · have rT := rep_trip (K := X.K) (mg := X.mg) (S := S) (T := wT) fun z hz => (t3 z (hall z hz)).1
              have ev : (mp Prod.fst wT).map (·.1) = wT.map fun z => z.1.1 := by simp [mp]
              rw [ev]
              exact q v S Fp _ (Same.refl _) (st.write hl hmd exs e1 e2 e3 e4 rT) (t3 _ hm).1
        · cases er
      · cases er
    · cases er
  · exact q.elim
theorem js_asgX {tg : Expr} {ts : List Nat} {g : D → Env → Res Env} (he : JX X m e fx) (hg : JG X m ts tg g) (hs : swapsWithSole [tg] e pos.line X.env = pure false := by rfl) (hw : swappedStores [tg] e X.env = pure none := by rfl)
    (h1 : (assignEach [tg] X.env).map (·.2) = [assign tg X.env] := by rfl) : JS X E L m m (.Assign [tg] e pos) (fAsgX fx g) := by
  refine ⟨PSimp (ps_asg he.pe hg.pg hs hw h1) fun D σ H h => ?_⟩
  obtain ⟨S0, H0, ρ, ⟨S, Fp, st⟩, q⟩ := h
  unfold fAsgX at q
  split at q
  · rename_i d ρ1 er
    split at q
    · rename_i ρ2 eg
      refine ⟨S0, H0, S, Fp, ρ, st, ?_⟩
      try rw [er]
      intro v S1 F1 H1 _ st1 rd
      refine ⟨S0, H0, S1, F1, ρ1, d, st1, rd, ?_⟩
      try rw [eg]
      exact fun σ1 S2 F2 H2 st2 _ _ => q _ _ st2.stM
    · exact q.elim
  · exact q.elim
end
end Da
namespace Da
open PySem PySem.Spec L2
section
variable {α β γ : Type} {e : α → D} {f : β → D} {ρ : Env} {fa fb : Env → Res D}
theorem op_mul {i j : Int} : Rf (dMul (.int i) (.int j)) (mulR i j) D.int := by
  unfold mulR
  split
  · rename_i h; exact dMul_int h
  · trivial
theorem op_div {i j : Int} : Rf (dDiv (.int i) (.int j)) (divR i j) D.int := by
  unfold divR
  split
  · rename_i h
    show (if divOk i j = true then Res.ok (D.int (i.fdiv j)) else .er) = _
    rw [if_pos (show divOk i j = true from stuck_iff.mpr ⟨by omega, h.2⟩), Int.fdiv_eq_ediv_of_nonneg i (by omega)]
  · split
    · rename_i h
      show (if divOk i j = true then Res.ok (D.int (i.fdiv j)) else .er) = _
      have hf : i.fdiv j = -i / -j := by
        have h1 : i.fdiv j = (-i).fdiv (-j) := (Int.neg_fdiv_neg i j).symm
        rw [h1, Int.fdiv_eq_ediv_of_nonneg _ (by omega)]
      rw [if_pos (show divOk i j = true from stuck_iff.mpr ⟨by omega, h.2⟩), hf]
    · trivial
theorem op_mod {i j : Int} : Rf (dMod (.int i) (.int j)) (modR i j) D.int := by
  unfold modR
  split
  · rename_i h; exact dMod_pos h
  · trivial
theorem op_divp {i j : Int} (h : 0 < j) (h9 : j < 18446744073709551616) : dDiv (.int i) (.int j) = .ok (.int (i / j)) := dDiv_64 h h9
theorem op_modp {i j : Int} (h : 0 < j) : dMod (.int i) (.int j) = .ok (.int (i % j)) := dMod_pos h
theorem op_pow {i j : Int} : Rf (dPow (.int i) (.int j)) (powR i j) D.int := by
  unfold powR
  split
  · rename_i h; exact if_pos h
  · trivial
theorem atI_mapN {xs : List α} {i : Int} : atI (xs.map e) i = (atI xs i).map e := by
  unfold atI ixN
  rw [List.length_map]
  split <;> (try split) <;> simp
theorem op_ixL {xs : List α} {i : Int} : Rf (dIx (eL e xs) (.int i)) (ixR xs i) e := by
  unfold ixR
  cases h : atI xs i with
  | some x => exact dIx_lst (by rw [atI_mapN, h]; rfl)
  | none => trivial
theorem op_ixT {xs : List α} {i : Int} : Rf (dIx (eT e xs) (.int i)) (ixR xs i) e := by
  unfold ixR
  cases h : atI xs i with
  | some x => exact dIx_tup (by rw [atI_mapN, h]; rfl)
  | none => trivial
theorem op_ixF {xs : List α} {i : Int} : Rf (dIx (eF e xs) (.int i)) (ixR xs i) e := by
  unfold ixR
  cases h : atI xs i with
  | some x => exact dIx_frl (by rw [atI_mapN, h]; rfl)
  | none => trivial
theorem op_catLL {xs ys : List α} : Rf (dAddL (eL e xs) (eL e ys)) (catR xs ys) (eL e) := by
  unfold catR
  split
  · rename_i h
    show (if szOk ((xs.map e).length + (ys.map e).length) = true then Res.ok (D.lst (xs.map e ++ ys.map e)) else .er) = Res.ok (D.lst ((xs ++ ys).map e))
    rw [List.length_map, List.length_map, h, List.map_append]; rfl
  · trivial
theorem op_rep {xs : List α} {k : Int} : Rf (dRep (eL e xs) (.int k)) (repR xs k) (eL e) := by
  unfold repR
  split
  · rename_i h
    show (if repOk (xs.map e).length k = true then Res.ok (D.lst (List.replicate k.toNat (xs.map e)).flatten) else .er) = Res.ok (D.lst (((List.replicate k.toNat xs).flatten).map e))
    rw [List.length_map, h, List.map_flatten, List.map_replicate]; rfl
  · trivial
theorem op_lenL {xs : List α} : dLen (eL e xs) = .ok (.int xs.length) := by show Res.ok (D.int (xs.map e).length) = _; rw [List.length_map]
theorem op_lenT {xs : List α} : dLen (eT e xs) = .ok (.int xs.length) := by show Res.ok (D.int (xs.map e).length) = _; rw [List.length_map]
theorem op_lenF {xs : List α} : dLen (eF e xs) = .ok (.int xs.length) := by show Res.ok (D.int (xs.map e).length) = _; rw [List.length_map]
theorem op_trL {xs : List α} : trD (eL e xs) = .ok (!xs.isEmpty) := by show Res.ok (!(xs.map e).isEmpty) = _; rw [List.isEmpty_map]
theorem op_trT {xs : List α} : trD (eT e xs) = .ok (!xs.isEmpty) := by show Res.ok (!(xs.map e).isEmpty) = _; rw [List.isEmpty_map]
theorem op_sumL {xs : List Int} : dSum (eL D.int xs) = .ok (.int xs.sum) := by show (match intsD (xs.map D.int) with | some ns => Res.ok (D.int ns.sum) | none => .er) = _; rw [intsD_map]
theorem op_allL {xs : List Bool} : dAll (eL D.bl xs) = .ok (.bl (xs.all id)) := by show (match boolsD (xs.map D.bl) with | some ns => Res.ok (D.bl (ns.all id)) | none => .er) = _; rw [boolsD_map]
theorem op_sortL {xs : List Int} : dSorted (eL D.int xs) = .ok (eL D.int (xs.mergeSort leI)) := dSorted_lst
theorem rf_chk {n : Nat} {m : List D → Res D} {ds : List D} {r : Res α} (h : Rf (m ds) r e) (hl : ds.length = n) : Rf (chk n m ds) r e := by
  unfold chk; rw [if_pos hl]; exact h
theorem ev_chk {n : Nat} {m : List D → Res D} {ds : List D} {d : D} (h : m ds = .ok d) (hl : ds.length = n) : chk n m ds = .ok d := by
  unfold chk; rw [if_pos hl]; exact h
theorem it_L {xs : List α} (h : fa ρ = .ok (eL e xs)) : fL fa ρ = .ok (xs.map e) := evL h rfl
theorem it_T {xs : List α} (h : fa ρ = .ok (eT e xs)) : fL fa ρ = .ok (xs.map e) := evL h rfl
theorem it_F {xs : List α} (h : fa ρ = .ok (eF e xs)) : fL fa ρ = .ok (xs.map e) := evL h rfl
theorem rng_mapI {lo : Int} {n : Nat} : rng lo n = (rngI lo n).map D.int := by unfold rng rngI; rw [List.map_map]; rfl
theorem it_R1 {fs : Env → Res (List D)} {j : Int} (h : fs ρ = .ok [.int j]) : Rf (fR1 fs ρ) (rngR j) (fun xs => xs.map D.int) := by
  unfold fR1
  rw [h]
  show Rf (if rngOk 0 j = true then Res.ok (rng 0 j.toNat) else .er) _ _
  unfold rngR
  split
  · rw [rng_mapI]; rfl
  · trivial
theorem it_R2 {fs : Env → Res (List D)} {i j : Int} (h : fs ρ = .ok [.int i, .int j]) : Rf (fR2 fs ρ) (rng2R i j) (fun xs => xs.map D.int) := by
  unfold fR2
  rw [h]
  show Rf (if rngOk i j = true then Res.ok (rng i (j - i).toNat) else .er) _ _
  unfold rng2R
  split
  · rw [rng_mapI]; rfl
  · trivial
theorem enum_map : ∀ {xs : List α} {i : Nat}, enumD i (xs.map e) = (enumI i xs).map (eP2 D.int e)
  | [], _ => rfl
  | x :: xs, i => by
    show D.tup [.int (i : Int), e x] :: enumD (i + 1) (xs.map e) = _
    rw [enum_map]
    rfl
theorem it_enT {xs : List α} (h : fa ρ = .ok (eT e xs)) : fEnum (fA fa fA0) ρ = .ok ((enumI 0 xs).map (eP2 D.int e)) := by
  unfold fEnum
  rw [evA h rfl, ← enum_map]
  rfl
theorem zip_map : ∀ {xs : List α} {ys : List β}, zipD (xs.map e) (ys.map f) = (xs.zip ys).map (eP2 e f)
  | [], ys => by simp [zipD]
  | x :: xs, [] => by simp [zipD]
  | x :: xs, y :: ys => by
    show D.tup [e x, f y] :: zipD (xs.map e) (ys.map f) = _
    rw [zip_map]
    rfl
theorem it_zipT {xs : List α} {ys : List β} (h : fa ρ = .ok (eT e xs)) (k : fb ρ = .ok (eT f ys)) : fZip (fA fa (fA fb fA0)) ρ = .ok ((xs.zip ys).map (eP2 e f)) := by
  unfold fZip
  rw [evA h (evA k rfl), ← zip_map]
  rfl
end
section
variable {α β γ α' : Type} {ex : α → D} {e : β → D} {vs vs1 : List Nat} {it it1 : Env → Res (List D)} {g g1 : D → Env → Res Env} {c c1 : Env → Res Bool} {f : Env → Res D} {ρ : Env}
theorem lcGo_rf {rc : α → Res Bool} {rf : α → Res β} {E1 : α → Env} (hg : ∀ x, g (ex x) ρ = .ok (E1 x)) (hc : ∀ x, Rf (c (E1 x)) (rc x) (fun b => b)) (hf : ∀ x, Rf (f (E1 x)) (rf x) e) : ∀ xs : List α, match lcR.go rc rf xs with
    | .ok ys => lcGo g c f ρ (xs.map ex) = .ok (ys.map e)
    | .ex _ _ => False
    | .er => True
  | [] => rfl
  | x :: xs => by
    have ih := lcGo_rf hg hc hf xs
    unfold lcR.go
    rw [List.map_cons]
    unfold lcGo
    rw [hg]
    have h1 := hc x
    have h2 := hf x
    cases q : rc x with
    | ok b =>
      rw [q] at h1
      have h1 : c (E1 x) = .ok b := h1
      dsimp only
      rw [h1]
      cases b with
      | true =>
        cases q2 : rf x with
        | ok y =>
          rw [q2] at h2
          have h2 : f (E1 x) = .ok (e y) := h2
          dsimp only
          rw [h2]
          cases q3 : lcR.go rc rf xs with
          | ok ys => rw [q3] at ih; dsimp only at ih ⊢; rw [ih]; rfl
          | ex _ _ => rw [q3] at ih; exact ih.elim
          | er => exact trivial
        | ex _ _ => exact trivial
        | er => exact trivial
      | false => exact ih
    | ex _ _ => exact trivial
    | er => exact trivial
theorem rf_lcp {rc : α → Res Bool} {rf : α → Res β} {xs : List α} (hi : it ρ = .ok (xs.map ex)) (E1 : α → Env) (hg : ∀ x, g (ex x) (wipeD ρ vs) = .ok (E1 x)) (hc : ∀ x, Rf (c (E1 x)) (rc x) (fun b => b)) (hf : ∀ x, Rf (f (E1 x)) (rf x) e) : Rf (fLc vs it g c f ρ) (lcR xs rc rf) (eL e) := by
  unfold fLc lcR
  rw [hi]
  show Rf (if szOk (xs.map ex).length = true then asLst (lcGo g c f (wipeD ρ vs) (xs.map ex)) else .er) _ _
  rw [List.length_map]
  split
  · have := lcGo_rf hg hc hf xs
    cases q : lcR.go rc rf xs with
    | ok ys => rw [q] at this; dsimp only at this; rw [this]; exact rfl
    | ex _ _ => rw [q] at this; exact this.elim
    | er => exact trivial
  · exact trivial
theorem rf_lc {rc : α → Res Bool} {rf : α → Res β} {rxs : Res (List α)} (hi : Rf (it ρ) rxs (fun xs => xs.map ex)) (E1 : α → Env) (hg : ∀ x, g (ex x) (wipeD ρ vs) = .ok (E1 x)) (hc : ∀ x, Rf (c (E1 x)) (rc x) (fun b => b)) (hf : ∀ x, Rf (f (E1 x)) (rf x) e) : Rf (fLc vs it g c f ρ) (rxs.bind fun xs => lcR xs rc rf) (eL e) := by
  cases rxs with
  | ok xs => exact rf_lcp hi E1 hg hc hf
  | ex cn fs =>
    show fLc vs it g c f ρ = _
    unfold fLc
    rw [show it ρ = _ from hi]
    rfl
  | er => exact trivial
theorem lc2Go_rf {rc : α → Res Bool} {i1 : α → Res (List β)} {c1r : α → β → Res Bool} {rf : α → β → Res γ} {ey : β → D} {ez : γ → D} {E1 : α → Env} {E2 : α → β → Env} (hg : ∀ x, g (ex x) ρ = .ok (E1 x)) (hc : ∀ x, Rf (c (E1 x)) (rc x) (fun b => b))
    (hi1 : ∀ x, Rf (it1 (E1 x)) (i1 x) (fun ys => ys.map ey)) (hg1 : ∀ x y, g1 (ey y) (wipeD (E1 x) vs1) = .ok (E2 x y)) (hc1 : ∀ x y, Rf (c1 (E2 x y)) (c1r x y) (fun b => b)) (hf : ∀ x y, Rf (f (E2 x y)) (rf x y) ez) : ∀ xs : List α, match lc2R.go rc i1 c1r rf xs with
    | .ok ys => lc2Go g c vs1 it1 g1 c1 f ρ (xs.map ex) = .ok (ys.map ez)
    | .ex _ _ => False
    | .er => True
  | [] => rfl
  | x :: xs => by
    have ih := lc2Go_rf hg hc hi1 hg1 hc1 hf xs
    unfold lc2R.go
    rw [List.map_cons]
    unfold lc2Go
    rw [hg]
    have h1 := hc x
    have h2 := hi1 x
    cases q : rc x with
    | ok b =>
      rw [q] at h1
      have h1 : c (E1 x) = .ok b := h1
      dsimp only
      rw [h1]
      cases b with
      | true =>
        cases q2 : i1 x with
        | ok ys =>
          rw [q2] at h2
          have h2 : it1 (E1 x) = .ok (ys.map ey) := h2
          dsimp only
          rw [h2]
          have h3 := lcGo_rf (hg1 x) (hc1 x) (hf x) ys
          cases q3 : lcR.go (c1r x) (rf x) ys with
          | ok zs =>
            rw [q3] at h3
            dsimp only at h3
            simp only [nx_ok, Res.bind_ok, if_true, q3, h3]
            cases q4 : lc2R.go rc i1 c1r rf xs with
            | ok ws => rw [q4] at ih; dsimp only at ih ⊢; rw [ih]; simp only [Res.bind_ok, List.map_append]
            | ex _ _ => rw [q4] at ih; exact ih.elim
            | er => exact trivial
          | ex _ _ => rw [q3] at h3; exact h3.elim
          | er => simp only [nx_ok, Res.bind_ok, if_true, q3, Res.bind_er]
        | ex _ _ => exact trivial
        | er => exact trivial
      | false => exact ih
    | ex _ _ => exact trivial
    | er => exact trivial
theorem rf_lc2p {rc : α → Res Bool} {i1 : α → Res (List β)} {c1r : α → β → Res Bool} {rf : α → β → Res γ} {ey : β → D} {ez : γ → D} {xs : List α} (hi : it ρ = .ok (xs.map ex)) (E1 : α → Env) (E2 : α → β → Env) (hg : ∀ x, g (ex x) (wipeD ρ vs) = .ok (E1 x)) (hc : ∀ x, Rf (c (E1 x)) (rc x) (fun b => b))
    (hi1 : ∀ x, Rf (it1 (E1 x)) (i1 x) (fun ys => ys.map ey)) (hg1 : ∀ x y, g1 (ey y) (wipeD (E1 x) vs1) = .ok (E2 x y)) (hc1 : ∀ x y, Rf (c1 (E2 x y)) (c1r x y) (fun b => b)) (hf : ∀ x y, Rf (f (E2 x y)) (rf x y) ez) : Rf (fLc2 vs it g c vs1 it1 g1 c1 f ρ) (lc2R xs rc i1 c1r rf) (eL ez) := by
  unfold fLc2 lc2R
  rw [hi]
  show Rf (match lc2Go g c vs1 it1 g1 c1 f (wipeD ρ vs) (xs.map ex) with
    | .ok ys => if szOk ys.length = true then .ok (D.lst ys) else .er
    | _ => .er) _ _
  have := lc2Go_rf hg hc hi1 hg1 hc1 hf xs
  cases q : lc2R.go rc i1 c1r rf xs with
  | ok ys =>
    rw [q] at this
    dsimp only at this
    rw [this]
    dsimp only
    show Rf _ (if szOk ys.length = true then Res.ok ys else .er) _
    rw [List.length_map]
    split
    · exact rfl
    · exact trivial
  | ex _ _ => rw [q] at this; exact this.elim
  | er => exact trivial
theorem rf_lc2 {rc : α → Res Bool} {i1 : α → Res (List β)} {c1r : α → β → Res Bool} {rf : α → β → Res γ} {ey : β → D} {ez : γ → D} {rxs : Res (List α)} (hi : Rf (it ρ) rxs (fun xs => xs.map ex)) (E1 : α → Env) (E2 : α → β → Env) (hg : ∀ x, g (ex x) (wipeD ρ vs) = .ok (E1 x)) (hc : ∀ x, Rf (c (E1 x)) (rc x) (fun b => b))
    (hi1 : ∀ x, Rf (it1 (E1 x)) (i1 x) (fun ys => ys.map ey)) (hg1 : ∀ x y, g1 (ey y) (wipeD (E1 x) vs1) = .ok (E2 x y)) (hc1 : ∀ x y, Rf (c1 (E2 x y)) (c1r x y) (fun b => b)) (hf : ∀ x y, Rf (f (E2 x y)) (rf x y) ez) : Rf (fLc2 vs it g c vs1 it1 g1 c1 f ρ) (rxs.bind fun xs => lc2R xs rc i1 c1r rf) (eL ez) := by
  cases rxs with
  | ok xs => exact rf_lc2p hi E1 E2 hg hc hi1 hg1 hc1 hf
  | ex cn fs =>
    show fLc2 vs it g c vs1 it1 g1 c1 f ρ = _
    unfold fLc2
    rw [show it ρ = _ from hi]
    rfl
  | er => exact trivial
theorem rf_lcN2 {e1 : α → D} {e2 : β → D} {r1 : Res α} {r2 : Res β} {d1 d2 : D} {ρ1 ρ2 : Env} (hi : it ρ = .ok [d1, d2]) (hg1 : g d1 (wipeD ρ vs) = .ok ρ1) (hg2 : g d2 (wipeD ρ vs) = .ok ρ2) (hf1 : Rf (f ρ1) r1 e1) (hf2 : Rf (f ρ2) r2 e2) : Rf (fLc vs it g fYes f ρ) ((nx r1).bind fun x => (nx r2).bind fun y => .ok (x, y)) (eH2 e1 e2) := by
  unfold fLc
  rw [hi]
  show Rf (if szOk 2 = true then asLst (lcGo g fYes f (wipeD ρ vs) [d1, d2]) else .er) _ _
  rw [if_pos (szOk_yes (by decide))]
  cases r1 with
  | ok y =>
    cases r2 with
    | ok z => simp only [lcGo, hg1, hg2, fYes, show f ρ1 = _ from hf1, show f ρ2 = _ from hf2, if_true]; exact rfl
    | _ => exact trivial
  | _ => exact trivial
end
section
variable {α β γ δ σ : Type} {ex : α → D} {e : β → D} {vs : List Nat} {it : Env → Res (List D)} {g : D → Env → Res Env} {F G : FS} {ρ : Env} {K : Res Fl → Res δ} {o : γ → δ}
def ctlO {σ β : Type} (E : σ → Env) (e : β → D) : Ctl σ β → Fl
  | .go s => .nx (E s)
  | .out s => .bk (E s)
  | .ret v => .rt (e v)
def LoopC {σ β : Type} (E : σ → Env) (e : β → D) (m : Res Fl) (r : Res (Ctl σ β)) : Prop := match r with
  | .ok (.go s') => m = .ok (.nx (E s'))
  | .ok (.out _) => False
  | .ok (.ret v) => m = .ok (.rt (e v))
  | .ex c fs => ∃ ρ, m = .ok (.xc c fs ρ)
  | .er => True
def LoopR {σ : Type} (E : σ → Env) (m : Res Fl) (r : Res σ) : Prop := match r with
  | .ok s' => m = .ok (.nx (E s'))
  | .ex c fs => ∃ ρ, m = .ok (.xc c fs ρ)
  | .er => True
theorem finL_nx {vs : List Nat} {m : Res Fl} {ρ : Env} (h : finL vs m = .ok (.nx ρ)) : fgt vs m = .ok (.nx ρ) ∨ fgt vs m = .ok (.ct ρ) := by
  unfold finL at h
  split at h <;> cases h
  · exact .inl rfl
  · exact .inr rfl
theorem finL_bk {vs : List Nat} {m : Res Fl} {ρ : Env} (h : finL vs m = .ok (.bk ρ)) : fgt vs m = .ok (.bk ρ) := by
  unfold finL at h
  split at h <;> cases h
  rfl
theorem finL_rt {vs : List Nat} {m : Res Fl} {d : D} (h : finL vs m = .ok (.rt d)) : fgt vs m = .ok (.rt d) := by
  unfold finL at h
  split at h <;> cases h
  rfl
theorem finL_ex {vs : List Nat} {m : Res Fl} {c : Str} {fs : List (Str × D)} (h : finL vs m = .ex c fs) : ∃ ρ, fgt vs m = .ok (.xc c fs ρ) := by
  unfold finL at h
  split at h <;> cases h
  exact ⟨_, rfl⟩
theorem finL_end {vs : List Nat} {N : Res γ} {o : γ → Fl} (h : Rf (finL vs (fSeq F fNext ρ)) N o) : Rf (finL vs (F ρ)) N o := t_end h
theorem forGo_C {E : σ → Env} {E1 : σ → α → Env} {f : σ → α → Res (Ctl σ β)} (hg : ∀ s x, g (ex x) (E s) = .ok (E1 s x)) (hb : ∀ s x, Rf (finL vs (fSeq F fNext (E1 s x))) (f s x) (ctlO E e)) : ∀ (xs : List α) (s : σ), LoopC E e (forGo g (fFgt vs F) (xs.map ex) (E s)) (forC f xs s)
  | [], s => rfl
  | x :: xs, s => by
    unfold forC
    rw [List.map_cons]
    unfold forGo
    rw [hg]
    have h := finL_end (hb s x)
    cases q : f s x with
    | ok c =>
      rw [q] at h
      cases c with
      | go s' =>
        have ih := forGo_C hg hb xs s'
        rcases finL_nx h with h | h
        · dsimp only [Res.bind_ok, fFgt]
          rw [h]
          exact ih
        · dsimp only [Res.bind_ok, fFgt]
          rw [h]
          exact ih
      | out s' =>
        dsimp only [Res.bind_ok, fFgt]
        rw [finL_bk h]; exact rfl
      | ret v =>
        dsimp only [Res.bind_ok, fFgt]
        rw [finL_rt h]; exact rfl
    | ex c fs =>
      rw [q] at h
      obtain ⟨ρ1, h⟩ := finL_ex h
      dsimp only [Res.bind_ex, fFgt]
      rw [h]
      exact ⟨ρ1, rfl⟩
    | er => exact trivial
theorem forGo_R {E : σ → Env} {E1 : σ → α → Env} {f : σ → α → Res σ} (hg : ∀ s x, g (ex x) (E s) = .ok (E1 s x)) (hb : ∀ s x, Rf (finL vs (fSeq F fNext (E1 s x))) (f s x) (fun s => .nx (E s))) : ∀ (xs : List α) (s : σ), LoopR E (forGo g (fFgt vs F) (xs.map ex) (E s)) (forR f xs s)
  | [], s => rfl
  | x :: xs, s => by
    unfold forR
    rw [List.map_cons]
    unfold forGo
    rw [hg]
    have h := finL_end (hb s x)
    cases q : f s x with
    | ok s' =>
      rw [q] at h
      have ih := forGo_R hg hb xs s'
      rcases finL_nx h with h | h
      · dsimp only [Res.bind_ok, fFgt]
        rw [h]
        exact ih
      · dsimp only [Res.bind_ok, fFgt]
        rw [h]
        exact ih
    | ex c fs =>
      rw [q] at h
      obtain ⟨ρ1, h⟩ := finL_ex h
      dsimp only [Res.bind_ex, fFgt]
      rw [h]
      exact ⟨ρ1, rfl⟩
    | er => exact trivial
/-- a loop that neither breaks nor returns -/
theorem s_forp {f : σ → α → Res σ} {xs : List α} {s0 : σ} (hi : it ρ = .ok (xs.map ex)) (E : σ → Env) (E1 : σ → α → Env) (h0 : ρ = E s0) (hg : ∀ s x, g (ex x) (E s) = .ok (E1 s x)) (hb : ∀ s x, Rf (finL vs (fSeq F fNext (E1 s x))) (f s x) (fun s => .nx (E s))) : Rf (finS [] (fFor it g (fFgt vs F) ρ)) (forR f xs s0) (fun s => .nx (E s)) := by
  have h := forGo_R hg hb xs s0
  rw [fFor_ap hi]
  cases q : forR f xs s0 with
  | ok s' => rw [q] at h; have h : _ = _ := h; rw [h0, h]; exact rfl
  | ex c fs => rw [q] at h; obtain ⟨ρ1, h⟩ := h; rw [h0, h]; exact rfl
  | er => exact trivial
theorem s_for {f : σ → α → Res σ} {rxs : Res (List α)} {s0 : σ} (hi : Rf (it ρ) rxs (fun xs => xs.map ex)) (E : σ → Env) (E1 : σ → α → Env) (h0 : ρ = E s0) (hg : ∀ s x, g (ex x) (E s) = .ok (E1 s x)) (hb : ∀ s x, Rf (finL vs (fSeq F fNext (E1 s x))) (f s x) (fun s => .nx (E s))) : Rf (finS [] (fFor it g (fFgt vs F) ρ)) (rxs.bind fun xs => forR f xs s0) (fun s => .nx (E s)) := by
  cases rxs with
  | ok xs => exact s_forp hi E E1 h0 hg hb
  | ex c fs =>
    show finS [] (lift (it ρ) ρ _) = _
    rw [show it ρ = _ from hi]
    rfl
  | er => exact trivial
/-- a loop with breaks -/
theorem s_forBp {f : σ → α → Res (Ctl σ Unit)} {xs : List α} {s0 : σ} (hi : it ρ = .ok (xs.map ex)) (E : σ → Env) (E1 : σ → α → Env) (h0 : ρ = E s0) (hg : ∀ s x, g (ex x) (E s) = .ok (E1 s x)) (hb : ∀ s x, Rf (finL vs (fSeq F fNext (E1 s x))) (f s x) (ctlO E eN)) : Rf (finS [] (fFor it g (fFgt vs F) ρ)) ((forC f xs s0).bind ctlS) (fun s => .nx (E s)) := by
  have h := forGo_C hg hb xs s0
  rw [fFor_ap hi]
  cases q : forC f xs s0 with
  | ok c =>
    rw [q] at h
    cases c with
    | go s' => have h : _ = _ := h; rw [h0, h]; exact rfl
    | out s' => exact h.elim
    | ret v => exact trivial
  | ex c fs => rw [q] at h; obtain ⟨ρ1, h⟩ := h; rw [h0, h]; exact rfl
  | er => exact trivial
theorem s_forB {f : σ → α → Res (Ctl σ Unit)} {rxs : Res (List α)} {s0 : σ} (hi : Rf (it ρ) rxs (fun xs => xs.map ex)) (E : σ → Env) (E1 : σ → α → Env) (h0 : ρ = E s0) (hg : ∀ s x, g (ex x) (E s) = .ok (E1 s x)) (hb : ∀ s x, Rf (finL vs (fSeq F fNext (E1 s x))) (f s x) (ctlO E eN)) : Rf (finS [] (fFor it g (fFgt vs F) ρ)) (rxs.bind fun xs => (forC f xs s0).bind ctlS) (fun s => .nx (E s)) := by
  cases rxs with
  | ok xs => exact s_forBp hi E E1 h0 hg hb
  | ex c fs =>
    show finS [] (lift (it ρ) ρ _) = _
    rw [show it ρ = _ from hi]
    rfl
  | er => exact trivial
/-- a loop that may return -/
def ctlK {σ β γ : Type} (k : σ → Res γ) (rk : β → γ) (o : Ctl σ β) : Res γ := match o with
  | .go s => k s
  | .out s => k s
  | .ret v => .ok (rk v)
theorem t_forCp (hK : Fin K) {f : σ → α → Res (Ctl σ β)} {xs : List α} {s0 : σ} {k : σ → Res γ} {rk : β → γ} (hi : it ρ = .ok (xs.map ex)) (E : σ → Env) (E1 : σ → α → Env) (h0 : ρ = E s0) (hg : ∀ s x, g (ex x) (E s) = .ok (E1 s x)) (hb : ∀ s x, Rf (finL vs (fSeq F fNext (E1 s x))) (f s x) (ctlO E e))
    (hk : ∀ s, Rf (K (G (E s))) (k s) o) (hr : ∀ v, K (.ok (.rt (e v))) = .ok (o (rk v))) : Rf (K (fSeq (fFor it g (fFgt vs F)) G ρ)) ((forC f xs s0).bind (ctlK k rk)) o := by
  have h := forGo_C hg hb xs s0
  have e1 : fSeq (fFor it g (fFgt vs F)) G ρ = andThen (forGo g (fFgt vs F) (xs.map ex) (E s0)) G := by
    rw [fSeq_ap, fFor_ap hi, h0]
  rw [e1]
  cases q : forC f xs s0 with
  | ok c =>
    rw [q] at h
    cases c with
    | go s' => have h : _ = _ := h; rw [h]; exact hk s'
    | out s' => exact h.elim
    | ret v => have h : _ = _ := h; rw [h]; exact hr v
  | ex c fs => rw [q] at h; obtain ⟨ρ1, h⟩ := h; rw [h]; exact hK.xc _ _ _
  | er => exact trivial
theorem t_forC (hK : Fin K) {f : σ → α → Res (Ctl σ β)} {rxs : Res (List α)} {s0 : σ} {k : σ → Res γ} {rk : β → γ} (hi : Rf (it ρ) rxs (fun xs => xs.map ex)) (E : σ → Env) (E1 : σ → α → Env) (h0 : ρ = E s0) (hg : ∀ s x, g (ex x) (E s) = .ok (E1 s x)) (hb : ∀ s x, Rf (finL vs (fSeq F fNext (E1 s x))) (f s x) (ctlO E e))
    (hk : ∀ s, Rf (K (G (E s))) (k s) o) (hr : ∀ v, K (.ok (.rt (e v))) = .ok (o (rk v))) : Rf (K (fSeq (fFor it g (fFgt vs F)) G ρ)) (rxs.bind fun xs => (forC f xs s0).bind (ctlK k rk)) o := by
  cases rxs with
  | ok xs => exact t_forCp hK hi E E1 h0 hg hb hk hr
  | ex c fs =>
    have : fSeq (fFor it g (fFgt vs F)) G ρ = .ok (.xc c fs ρ) := by
      show andThen (lift (it ρ) ρ _) G = _
      rw [show it ρ = _ from hi]
      rfl
    rw [this]
    exact hK.xc _ _ _
  | er => exact trivial
theorem whileGo_C {c : Env → Res Bool} {E : σ → Env} {rc : σ → Res Bool} {f : σ → Res (Ctl σ β)} (hc : ∀ s, Rf (c (E s)) (rc s) (fun b => b)) (hb : ∀ s, Rf (finL vs (fSeq F fNext (E s))) (f s) (ctlO E e)) : ∀ (n : Nat) (s : σ), LoopC E e (whileGo c (fFgt vs F) n (E s)) (whileC rc f n s)
  | 0, s => trivial
  | n + 1, s => by
    unfold whileC whileGo
    have h1 := hc s
    cases q1 : rc s with
    | ok b =>
      rw [q1] at h1
      rw [show c (E s) = _ from h1]
      cases b with
      | false => exact rfl
      | true =>
        have h := finL_end (hb s)
        dsimp only [Res.bind_ok, lift_ok]
        rw [if_pos rfl, if_pos rfl]
        cases q : f s with
        | ok c' =>
          rw [q] at h
          cases c' with
          | go s' =>
            have ih := whileGo_C hc hb n s'
            rcases finL_nx h with h | h
            · dsimp only [Res.bind_ok, fFgt]
              rw [h]
              exact ih
            · dsimp only [Res.bind_ok, fFgt]
              rw [h]
              exact ih
          | out s' =>
            dsimp only [Res.bind_ok, fFgt]
            rw [finL_bk h]; exact rfl
          | ret v =>
            dsimp only [Res.bind_ok, fFgt]
            rw [finL_rt h]; exact rfl
        | ex c fs =>
          rw [q] at h
          obtain ⟨ρ1, h⟩ := finL_ex h
          dsimp only [Res.bind_ex, fFgt]
          rw [h]
          exact ⟨ρ1, rfl⟩
        | er => exact trivial
    | ex c' fs =>
      rw [q1] at h1
      rw [show c (E s) = _ from h1]
      exact ⟨_, rfl⟩
    | er => exact trivial
theorem s_while {c : Env → Res Bool} {rc : σ → Res Bool} {f : σ → Res (Ctl σ Unit)} {s0 : σ} (E : σ → Env) (h0 : ρ = E s0) (hc : ∀ s, Rf (c (E s)) (rc s) (fun b => b)) (hb : ∀ s, Rf (finL vs (fSeq F fNext (E s))) (f s) (ctlO E eN)) : Rf (finS [] (fWhile c (fFgt vs F) ρ)) ((whileC rc f FUEL s0).bind ctlS) (fun s => .nx (E s)) := by
  have h := whileGo_C hc hb FUEL s0
  unfold fWhile
  cases q : whileC rc f FUEL s0 with
  | ok c =>
    rw [q] at h
    cases c with
    | go s' => have h : _ = _ := h; rw [h0, h]; exact rfl
    | out s' => exact h.elim
    | ret v => exact trivial
  | ex c fs => rw [q] at h; obtain ⟨ρ1, h⟩ := h; rw [h0, h]; exact rfl
  | er => exact trivial
end
end Da
namespace Da
open PySem PySem.Spec L2
section
variable {α β γ δ σ : Type} {K : Res Fl → Res δ} {F G : FS} {ρ : Env} {f fa fb fj : Env → Res D} {e : α → D} {i j : Nat} {r : Res α} {N : Res γ} {o : γ → δ} {fs : Env → Res (List D)} {c : Env → Res Bool} {g1 : D → Res D} {g2 : D → D → Res D}
theorem rf_bv {rb : Res Bool} {m : Res Bool} (h : Rf m rb (fun b => b)) : Rf (m.bind fun b => .ok (.bl b)) rb D.bl := by
  cases rb with
  | ok b => rw [show m = _ from h]; rfl
  | ex c fs => rw [show m = _ from h]; rfl
  | er => trivial
theorem b_iB {m : Res D} {rb : Res Bool} (h : Rf m rb D.bl) : Rf (m.bind asB) rb (fun b => b) := by
  cases rb with
  | ok b => rw [show m = _ from h]; rfl
  | ex c fs => rw [show m = _ from h]; rfl
  | er => trivial
theorem b_iT {m : Res D} {rb : Res Bool} (h : Rf m rb D.bl) : Rf (m.bind trD) rb (fun b => b) := by
  cases rb with
  | ok b => rw [show m = _ from h]; rfl
  | ex c fs => rw [show m = _ from h]; rfl
  | er => trivial
theorem b_iL {m : Res D} {r : Res (List α)} {q : List α → D} (h : Rf m r q) (hq : ∀ xs, asL (q xs) = .ok (xs.map e)) : Rf (m.bind asL) r (fun xs => xs.map e) := by
  cases r with
  | ok b => rw [show m = _ from h]; exact hq b
  | ex c fs => rw [show m = _ from h]; rfl
  | er => trivial
theorem evChain {g g' : D → D → Res D} {fc : Env → Res D} {x y z : D} {a b : Bool} (ha : fa ρ = .ok x) (hb : fb ρ = .ok y) (hc : fc ρ = .ok z) (h1 : g x y = .ok (.bl a)) (h2 : g' y z = .ok (.bl b)) : fChain g g' fa fb fc ρ = .ok (.bl (a && b)) := by
  unfold fChain
  rw [ha]; show (fb ρ).bind _ = _
  rw [hb]; show (g x y).bind _ = _
  rw [h1]
  cases a with
  | true => show (fc ρ).bind _ = _; rw [hc]; exact h2
  | false => rfl
theorem rOrF {rb : Res Bool} {ca cb : Env → Res Bool} (ha : ca ρ = .ok false) (hb : Rf (cb ρ) rb (fun x => x)) : Rf (fOr ca cb ρ) rb (fun x => x) := by unfold fOr; rw [ha]; exact hb
theorem it_row2 {d1 d2 : D} {t : D} (h : fa ρ = .ok t) (ht : asL t = .ok [d1, d2] := by rfl) : fL fa ρ = .ok [d1, d2] := evL h ht
theorem q_f1 (h : Rf ((fa ρ).bind g1) N o') : Rf (f1 g1 fa ρ) N o' := h
theorem q_f2 (h : Rf ((fa ρ).bind fun x => (fb ρ).bind fun y => g2 x y) N o') : Rf (f2 g2 fa fb ρ) N o' := h
theorem q_on {g : List D → Res D} (h : Rf ((fs ρ).bind g) N o') : Rf (fOn g fs ρ) N o' := h
theorem q_B {o' : γ → Bool} (h : Rf ((f ρ).bind asB) N o') : Rf (fB f ρ) N o' := h
theorem q_Bv {o' : γ → D} (h : Rf ((c ρ).bind fun b => .ok (.bl b)) N o') : Rf (fBv c ρ) N o' := h
theorem q_Tr {o' : γ → Bool} (h : Rf ((f ρ).bind trD) N o') : Rf (fTr f ρ) N o' := h
theorem q_Not {o' : γ → Bool} (h : Rf ((c ρ).bind fun c => .ok (!c)) N o') : Rf (fNot c ρ) N o' := h
theorem q_L {o' : γ → List D} (h : Rf ((f ρ).bind asL) N o') : Rf (fL f ρ) N o' := h
theorem q_R1 {o' : γ → List D} (h : Rf ((fs ρ).bind gRng1) N o') : Rf (fR1 fs ρ) N o' := h
theorem q_R2 {o' : γ → List D} (h : Rf ((fs ρ).bind gRng2) N o') : Rf (fR2 fs ρ) N o' := h
theorem k_R1 {j : Int} : Rf (gRng1 [.int j]) (rngR j) (fun xs => xs.map D.int) := it_R1 (ρ := []) (fs := fun _ => .ok [.int j]) rfl
theorem k_R2 {i j : Int} : Rf (gRng2 [.int i, .int j]) (rng2R i j) (fun xs => xs.map D.int) := it_R2 (ρ := []) (fs := fun _ => .ok [.int i, .int j]) rfl
theorem set_p {d : D} {ρ' : Env} (hf : f ρ = .ok d) (h : ρ.set i (some d) = ρ') : fSet i f ρ = .ok (.nx ρ') := by
  show lift (f ρ) ρ _ = _
  rw [hf, ← h]
  rfl
theorem s_lift {α : Type} {m : Res α} {k : α → Res Fl} {d : α} {N : Res γ} {o : γ → Fl} (h : m = .ok d) (hk : Rf (finS [] (k d)) N o) : Rf (finS [] (lift m ρ k)) N o := by rw [h]; exact hk
theorem s_liftI {α τ : Type} {m : Res α} {k : α → Res Fl} {r : Res τ} {e : τ → α} {N : τ → Res γ} {o : γ → Fl} (h : Rf m r e) (hk : ∀ x, Rf (finS [] (k (e x))) (N x) o) : Rf (finS [] (lift m ρ k)) (r.bind N) o := by
  cases r with
  | ok v => rw [show m = _ from h]; exact hk v
  | ex c fs => rw [show m = _ from h]; exact rfl
  | er => exact trivial
theorem fApp_at {xs : List D} (h : ρ[i]? = some (some (.lst xs))) : fApp i f ρ = lift (f ρ) ρ fun d => if szOk (xs.length + 1) = true then .ok (.nx (ρ.set i (some (.lst (xs ++ [d]))))) else .er := by unfold fApp; rw [h]
theorem k_app {xs : List α} {d : α} (E : List α → Env) (hE : ∀ ys, ρ.set i (some (eL e ys)) = E ys) : Rf (finS [] (if szOk ((xs.map e).length + 1) = true then .ok (.nx (ρ.set i (some (.lst (xs.map e ++ [e d]))))) else .er)) (appR xs d) (fun ys => .nx (E ys)) := by
  unfold appR
  rw [List.length_map]
  split
  · show Res.ok (Fl.nx _) = Res.ok (Fl.nx _)
    rw [← hE, show eL e (xs ++ [d]) = .lst (xs.map e ++ [e d]) by unfold eL; rw [List.map_append]; rfl]
    rfl
  · trivial
theorem s_app {xs : List α} {d : α} (E : List α → Env) (h : ρ[i]? = some (some (eL e xs))) (hf : f ρ = .ok (e d)) (hE : ∀ ys, ρ.set i (some (eL e ys)) = E ys) : Rf (finS [] (fApp i f ρ)) (appR xs d) (fun ys => .nx (E ys)) := by
  rw [fApp_at h]
  exact s_lift hf (k_app E hE)
theorem s_appI {xs : List α} {r : Res α} (E : List α → Env) (h : ρ[i]? = some (some (eL e xs))) (hf : Rf (f ρ) r e) (hE : ∀ ys, ρ.set i (some (eL e ys)) = E ys) : Rf (finS [] (fApp i f ρ)) (r.bind fun d => appR xs d) (fun ys => .nx (E ys)) := by
  rw [fApp_at h]
  exact s_liftI hf fun d => k_app E hE
theorem fSetIx_at {xs : List D} (h : ρ[i]? = some (some (.lst xs))) : fSetIx i f fj ρ = lift (f ρ) ρ fun d => lift (fj ρ) ρ fun j => match j with
    | .int z => (match ixN xs.length z with
      | some k => .ok (.nx (ρ.set i (some (.lst (xs.set k d)))))
      | none => .er)
    | _ => .er := by unfold fSetIx; rw [h]; try rfl
theorem s_setIx {xs : List α} {d : α} {z : Int} (E : List α → Env) (h : ρ[i]? = some (some (eL e xs))) (hf : f ρ = .ok (e d)) (hj : fj ρ = .ok (.int z)) (hE : ∀ ys, ρ.set i (some (eL e ys)) = E ys) : Rf (finS [] (fSetIx i f fj ρ)) (setR xs z d) (fun ys => .nx (E ys)) := by
  rw [fSetIx_at h]
  refine s_lift hf (s_lift hj ?_)
  unfold setR
  dsimp only
  rw [List.length_map]
  cases ixN xs.length z with
  | some k =>
    show Res.ok (Fl.nx _) = Res.ok (Fl.nx _)
    rw [← hE, show eL e (xs.set k d) = .lst ((xs.map e).set k (e d)) by unfold eL; rw [List.map_set]]
    rfl
  | none => trivial
theorem s_setIxI {xs : List α} {r : Res α} {z : Int} (E : List α → Env) (h : ρ[i]? = some (some (eL e xs))) (hf : Rf (f ρ) r e) (hj : fj ρ = .ok (.int z)) (hE : ∀ ys, ρ.set i (some (eL e ys)) = E ys) : Rf (finS [] (fSetIx i f fj ρ)) (r.bind fun d => setR xs z d) (fun ys => .nx (E ys)) := by
  cases r with
  | ok d => exact s_setIx E h hf hj hE
  | ex c fs => rw [fSetIx_at h, show f ρ = _ from hf]; exact rfl
  | er => trivial
theorem s_app2 {xs : List (List α)} {d : α} {z : Int} (E : List (List α) → Env) (h : ρ[i]? = some (some (eL (eL e) xs))) (hf : f ρ = .ok (e d)) (hj : fj ρ = .ok (.int z)) (hE : ∀ ys, ρ.set i (some (eL (eL e) ys)) = E ys) : Rf (finS [] (fApp2 i fj f ρ)) (app2R xs z d) (fun ys => .nx (E ys)) := by
  unfold fApp2
  rw [h]
  refine s_lift hj ?_
  unfold app2R
  dsimp only [eL]
  rw [List.length_map]
  cases ixN xs.length z with
  | some k =>
    dsimp only
    rw [List.getElem?_map]
    cases q : xs[k]? with
    | some us =>
      dsimp only [Option.map]
      refine s_lift hf ?_
      rw [List.length_map]
      split
      · show Res.ok (Fl.nx _) = Res.ok (Fl.nx _)
        rw [← hE, show eL (eL e) (xs.set k (us ++ [d])) = .lst ((xs.map (eL e)).set k (.lst (us.map e ++ [e d]))) by
          unfold eL; rw [List.map_set, List.map_append]; rfl]
        rfl
      · trivial
    | none => trivial
  | none => trivial
theorem s_app2J {xs : List (List α)} {d : α} {rj : Res Int} (E : List (List α) → Env) (h : ρ[i]? = some (some (eL (eL e) xs))) (hf : f ρ = .ok (e d)) (hj : Rf (fj ρ) rj D.int) (hE : ∀ ys, ρ.set i (some (eL (eL e) ys)) = E ys) : Rf (finS [] (fApp2 i fj f ρ)) (rj.bind fun z => app2R xs z d) (fun ys => .nx (E ys)) := by
  cases rj with
  | ok z => exact s_app2 E h hf hj hE
  | ex c fs => unfold fApp2; rw [h]; dsimp only [eL]; rw [show fj ρ = _ from hj]; exact rfl
  | er => trivial
theorem s_app2IJ {xs : List (List α)} {r : Res α} {rj : Res Int} (E : List (List α) → Env) (h : ρ[i]? = some (some (eL (eL e) xs))) (hf : Rf (f ρ) r e) (hj : Rf (fj ρ) rj D.int) (hE : ∀ ys, ρ.set i (some (eL (eL e) ys)) = E ys) : Rf (finS [] (fApp2 i fj f ρ)) (rj.bind fun z => (nx r).bind fun d => app2R xs z d) (fun ys => .nx (E ys)) := by
  cases r with
  | ok d => exact s_app2J E h hf hj hE
  | _ =>
    cases rj with
    | ok z => trivial
    | ex c fs => unfold fApp2; rw [h]; dsimp only [eL]; rw [show fj ρ = _ from hj]; exact rfl
    | er => trivial
/-- pops -/
def RfX {α τ : Type} (m : Res (D × Env)) (r : Res (α × τ)) (e : α → D) (E : τ → Env) : Prop := match r with
  | .ok v => m = .ok (e v.1, E v.2)
  | _ => True
theorem x_pop {xs : List α} {z : Int} (E : List α → Env) (h : ρ[i]? = some (some (eL e xs))) (hf : f ρ = .ok (.int z)) (hE : ∀ ys, ρ.set i (some (eL e ys)) = E ys) : RfX (fPop i f ρ) (popR xs z) e E := by
  unfold fPop
  rw [h, hf]
  unfold popR
  dsimp only [eL]
  rw [List.length_map]
  cases q : ixN xs.length z with
  | some k =>
    dsimp only
    rw [List.getElem?_map]
    cases q2 : xs[k]? with
    | some y =>
      dsimp only [Option.map]
      split
      · rename_i hs
        show Res.ok _ = Res.ok _
        rw [← hE]
        show Res.ok (e y, ρ.set i (some (.lst ((xs.map e).eraseIdx k)))) = Res.ok (e y, ρ.set i (some (.lst ((xs.eraseIdx k).map e))))
        rw [show (xs.map e).eraseIdx k = (xs.eraseIdx k).map e by
          rw [List.eraseIdx_eq_take_drop_succ, List.eraseIdx_eq_take_drop_succ, List.map_append, List.map_take, List.map_drop]]
      · trivial
    | none => trivial
  | none => trivial
theorem x_popI {xs : List α} {rz : Res Int} (E : List α → Env) (h : ρ[i]? = some (some (eL e xs))) (hf : Rf (f ρ) rz D.int) (hE : ∀ ys, ρ.set i (some (eL e ys)) = E ys) : RfX (fPop i f ρ) ((nx rz).bind fun z => popR xs z) e E := by
  cases rz with
  | ok z => exact x_pop E h hf hE
  | _ => trivial
theorem x_pop0 {xs : List α} (E : List α → Env) (h : ρ[i]? = some (some (eL e xs))) (hE : ∀ ys, ρ.set i (some (eL e ys)) = E ys) : RfX (fPop0 i ρ) (pop0R xs) e E := by
  unfold fPop0
  rw [h]
  unfold pop0R
  dsimp only [eL]
  rw [List.length_map, List.getElem?_map]
  cases q : xs[xs.length - 1]? with
  | some y =>
    dsimp only [Option.map]
    show Res.ok _ = Res.ok _
    rw [← hE]
    show Res.ok (e y, ρ.set i (some (.lst ((xs.map e).dropLast)))) = Res.ok (e y, ρ.set i (some (.lst ((xs.dropLast).map e))))
    rw [← List.map_dropLast]
  | none => trivial
theorem s_setX {τ : Type} {f : Env → Res (D × Env)} {r : Res (α × τ)} {E1 : τ → Env} (E : α × τ → Env) (hf : RfX (f ρ) r e E1) (hE : ∀ v, (E1 v.2).set i (some (e v.1)) = E v) : Rf (finS [] (fSetX i f ρ)) (nx r) (fun s => .nx (E s)) := by
  cases r with
  | ok v =>
    show finS [] (fSetX i f ρ) = _
    unfold fSetX
    rw [show f ρ = .ok (e v.1, E1 v.2) from hf]
    dsimp only
    rw [hE]
    rfl
  | _ => trivial
theorem s_appX {τ : Type} {f : Env → Res (D × Env)} {r : Res (α × τ)} {E1 : τ → Env} {xs : List α} (E : List α × τ → Env) (h : ρ[i]? = some (some (eL e xs))) (hf : RfX (f ρ) r e E1) (h1 : ∀ t, (E1 t)[i]? = some (some (eL e xs))) (hE : ∀ ys t, (E1 t).set i (some (eL e ys)) = E (ys, t)) :
    Rf (finS [] (fAppX i f ρ)) ((nx r).bind fun v => (appR xs v.1).bind fun ys => .ok (ys, v.2)) (fun s => .nx (E s)) := by
  cases r with
  | ok v =>
    show Rf _ ((appR xs v.1).bind fun ys => .ok (ys, v.2)) _
    unfold fAppX
    rw [h]
    dsimp only [eL]
    rw [show f ρ = .ok (e v.1, E1 v.2) from hf]
    dsimp only
    rw [h1]
    unfold appR
    dsimp only [eL]
    rw [List.length_map]
    split
    · show Res.ok (Fl.nx _) = Res.ok (Fl.nx _)
      rw [← hE, show eL e (xs ++ [v.1]) = .lst (xs.map e ++ [e v.1]) by unfold eL; rw [List.map_append]; rfl]
      rfl
    · trivial
  | _ => trivial
theorem s_fld {c fn : Str} {ns : List Str} {ds : List D} (E : α → Env) (hρ : ρ[i]? = some (some (.obj c ns ds))) (hn : ns.length < 100) (hf : Rf (f ρ) r e) (hE : ∀ v, ρ.set i (some (.obj c (putN fn ns) (putD fn (e v) ns ds))) = E v) : Rf (finS [] (fFld c fn i f ρ)) r (fun s => .nx (E s)) := by
  have h : fFld c fn i f ρ = lift (f ρ) ρ fun d => .ok (.nx (ρ.set i (some (.obj c (putN fn ns) (putD fn d ns ds))))) := by
    unfold fFld
    rw [hρ]
    dsimp only
    rw [if_pos ⟨rfl, hn⟩]
  rw [h]
  cases r with
  | ok v => rw [show f ρ = .ok (e v) from hf]; show finS [] (.ok (.nx _)) = _; rw [hE]; rfl
  | ex c fs => rw [show f ρ = _ from hf]; rfl
  | er => trivial
theorem fld_hit {c f : Str} {ns : List Str} {d : D} {ds : List D} : dFld c f (.obj c (f :: ns) (d :: ds)) = .ok d := by
  unfold dFld
  dsimp only
  rw [if_pos rfl]
  unfold lookF
  rw [if_pos rfl]
theorem fld_skip {c f g : Str} {ns : List Str} {x d : D} {ds : List D} (h : g ≠ f) (k : dFld c f (.obj c ns ds) = .ok d) : dFld c f (.obj c (g :: ns) (x :: ds)) = .ok d := by
  unfold dFld at k ⊢
  dsimp only at k ⊢
  rw [if_pos rfl] at k ⊢
  unfold lookF
  rw [if_neg h]
  exact k
theorem q_meth {c mn : Str} {np : Nat} {g : List D → Res D} {ns : List Str} {ds : List D} (hx : fa ρ = .ok (.obj c ns ds)) (hl : lookF ns ds mn = none) (h : Rf ((fs ρ).bind fun ys => chk np g (.obj c ns ds :: ys)) N o') : Rf (fMeth c mn np g fa fs ρ) N o' := by
  unfold fMeth
  rw [hx]
  show Rf (if c = c ∧ lookF ns ds mn = none then _ else _) _ _
  rw [if_pos ⟨rfl, hl⟩]
  exact h
end
class Dat {α : Type} [DecidableEq α] (e : α → D) (k : outParam Nat) : Prop where
  py : ∀ x, ∃ y, D.py (e x) = some y ∧ y.canLay0 = true ∧ y.depth ≤ k
  inj : ∀ x x' y y', D.py (e x) = some y → D.py (e x') = some y' → PyData.eqv y y' = decide (x = x')
section
variable {α β : Type} [DecidableEq α] [DecidableEq β] {e : α → D} {f : β → D} {k l : Nat}
instance : Dat D.int 0 where
  py x := ⟨.int x, rfl, rfl, by simp [PyData.depth]⟩
  inj x x' y y' h h' := by
    cases h; cases h'
    simp only [PyData.eqv]
    by_cases hx : x = x' <;> simp [hx]
instance : Dat D.bl 0 where
  py x := ⟨.bool x, rfl, rfl, by simp [PyData.depth]⟩
  inj x x' y y' h h' := by
    cases h; cases h'
    cases x <;> cases x' <;> rfl
theorem pys_map [Dat e k] : ∀ xs : List α, ∃ ys, D.pys (xs.map e) = some ys ∧ PyData.canLayAll0 ys = true ∧ PyData.depthAll ys ≤ k
  | [] => ⟨[], rfl, rfl, by simp [PyData.depthAll]⟩
  | x :: xs => by
    obtain ⟨y, h1, h2, h3⟩ := Dat.py (e := e) x
    obtain ⟨ys, k1, k2, k3⟩ := pys_map xs
    refine ⟨y :: ys, ?_, ?_, ?_⟩
    · rw [List.map_cons]; unfold D.pys; rw [h1, k1]
    · simp only [PyData.canLayAll0, h2, k2, Bool.and_self]
    · simp only [PyData.depthAll]; omega
theorem pys_inj [Dat e k] : ∀ (xs xs' : List α) (ys ys' : List PyData), D.pys (xs.map e) = some ys → D.pys (xs'.map e) = some ys' → PyData.eqvAll ys ys' = decide (xs = xs')
  | [], [], ys, ys', h, h' => by cases h; cases h'; simp [PyData.eqvAll]
  | [], x' :: xs', ys, ys', h, h' => by
    cases h
    rw [List.map_cons] at h'
    unfold D.pys at h'
    split at h'
    · cases h'; simp [PyData.eqvAll]
    · cases h'
  | x :: xs, [], ys, ys', h, h' => by
    cases h'
    rw [List.map_cons] at h
    unfold D.pys at h
    split at h
    · cases h; simp [PyData.eqvAll]
    · cases h
  | x :: xs, x' :: xs', ys, ys', h, h' => by
    rw [List.map_cons] at h h'
    unfold D.pys at h h'
    split at h
    · rename_i y zs e1 e2
      cases h
      split at h'
      · rename_i y' zs' e1' e2'
        cases h'
        rw [PyData.eqvAll, Dat.inj x x' _ _ e1 e1', pys_inj xs xs' _ _ e2 e2']
        by_cases h1 : x = x' <;> by_cases h2 : xs = xs' <;> simp [h1, h2]
      · cases h'
    · cases h
theorem py_lst' {ds : List D} {ys : List PyData} (h : D.pys ds = some ys) : D.py (.lst ds) = some (.list ys) := by unfold D.py; rw [h]
theorem py_tup' {ds : List D} {ys : List PyData} (h : D.pys ds = some ys) : D.py (.tup ds) = some (.tuple ys) := by unfold D.py; rw [h]
theorem py_lst_of {ds : List D} {y : PyData} (h : D.py (.lst ds) = some y) : ∃ ys, D.pys ds = some ys ∧ y = .list ys := by
  unfold D.py at h
  split at h
  · rename_i ys e; cases h; exact ⟨ys, e, rfl⟩
  · cases h
theorem py_tup_of {ds : List D} {y : PyData} (h : D.py (.tup ds) = some y) : ∃ ys, D.pys ds = some ys ∧ y = .tuple ys := by
  unfold D.py at h
  split at h
  · rename_i ys e; cases h; exact ⟨ys, e, rfl⟩
  · cases h
instance [Dat e k] : Dat (eL e) (k + 1) where
  py xs := by
    obtain ⟨ys, h1, h2, h3⟩ := pys_map (e := e) xs
    refine ⟨.list ys, py_lst' h1, ?_, ?_⟩
    · simp only [PyData.canLay0, h2]
    · simp only [PyData.depth]; omega
  inj x x' y y' h h' := by
    obtain ⟨ys, h1, rfl⟩ := py_lst_of h
    obtain ⟨ys', h1', rfl⟩ := py_lst_of h'
    simp only [PyData.eqv]
    exact pys_inj _ _ _ _ h1 h1'
instance [Dat e k] : Dat (eT e) (k + 1) where
  py xs := by
    obtain ⟨ys, h1, h2, h3⟩ := pys_map (e := e) xs
    refine ⟨.tuple ys, py_tup' h1, ?_, ?_⟩
    · simp only [PyData.canLay0, h2]
    · simp only [PyData.depth]; omega
  inj x x' y y' h h' := by
    obtain ⟨ys, h1, rfl⟩ := py_tup_of h
    obtain ⟨ys', h1', rfl⟩ := py_tup_of h'
    simp only [PyData.eqv]
    exact pys_inj _ _ _ _ h1 h1'
theorem pys2 {a b : D} {y z : PyData} (h1 : D.py a = some y) (h2 : D.py b = some z) : D.pys [a, b] = some [y, z] := by simp [D.pys, h1, h2]
theorem pys2_of {a b : D} {ys : List PyData} (h : D.pys [a, b] = some ys) : ∃ y z, D.py a = some y ∧ D.py b = some z ∧ ys = [y, z] := by
  unfold D.pys at h
  split at h
  · rename_i y zs e1 e2
    unfold D.pys at e2
    split at e2
    · rename_i z ws e3 e4
      cases e4; cases e2; cases h
      exact ⟨y, z, e1, e3, rfl⟩
    · cases e2
  · cases h
instance [Dat e k] [Dat f l] : Dat (eP2 e f) (max k l + 1) where
  py x := by
    obtain ⟨y, h1, h2, h3⟩ := Dat.py (e := e) x.1
    obtain ⟨z, k1, k2, k3⟩ := Dat.py (e := f) x.2
    refine ⟨.tuple [y, z], py_tup' (pys2 h1 k1), ?_, ?_⟩
    · simp only [PyData.canLay0, PyData.canLayAll0, h2, k2, Bool.and_self]
    · simp only [PyData.depth, PyData.depthAll]; omega
  inj x x' y y' h h' := by
    obtain ⟨ys, h1, rfl⟩ := py_tup_of h
    obtain ⟨ys', h1', rfl⟩ := py_tup_of h'
    obtain ⟨a, b, ea, eb, rfl⟩ := pys2_of h1
    obtain ⟨a', b', ea', eb', rfl⟩ := pys2_of h1'
    simp only [PyData.eqv, PyData.eqvAll, Dat.inj _ _ _ _ ea ea', Dat.inj _ _ _ _ eb eb']
    by_cases h1 : x.1 = x'.1 <;> by_cases h2 : x.2 = x'.2 <;> simp [h1, h2, Prod.ext_iff]
instance [Dat e k] : Dat (eP1 e) (k + 1) where
  py x := by
    obtain ⟨y, h1, h2, h3⟩ := Dat.py (e := e) x
    refine ⟨.tuple [y], py_tup' (by simp [D.pys, h1]), ?_, ?_⟩
    · simp only [PyData.canLay0, PyData.canLayAll0, h2, Bool.and_self]
    · simp only [PyData.depth, PyData.depthAll]; omega
  inj x x' y y' h h' := by
    obtain ⟨ys, h1, rfl⟩ := py_tup_of h
    obtain ⟨ys', h1', rfl⟩ := py_tup_of h'
    have q := pys_inj (e := e) [x] [x'] _ _ h1 h1'
    simp only [PyData.eqv]
    rw [q]
    by_cases h1 : x = x' <;> simp [h1]
theorem shp [Dat e k] (hk : k ≤ 64) {x : α} {y : PyData} (h : D.py (e x) = some y) : SeqAt.shaped y = true := by
  obtain ⟨y', h1, h2, h3⟩ := Dat.py (e := e) x
  rw [h] at h1
  cases h1
  unfold SeqAt.shaped
  rw [h2, decide_eq_true (show y.depth ≤ 64 by omega)]
  rfl
theorem eqD_dat [Dat e k] {x x' : α} (hk : k ≤ 64) : eqD (e x) (e x') = .ok (decide (x = x')) := by
  obtain ⟨y, h1, _⟩ := Dat.py (e := e) x
  obtain ⟨y', h1', _⟩ := Dat.py (e := e) x'
  unfold eqD
  rw [h1, h1']
  simp only [shp hk h1, shp hk h1', Bool.and_self, if_true, Dat.inj x x' _ _ h1 h1']
theorem op_eq [Dat e k] {x x' : α} (hk : k ≤ 64 := by decide) : dEq (e x) (e x') = .ok (.bl (decide (x = x'))) := by unfold dEq; rw [eqD_dat hk]; rfl
theorem op_ne [Dat e k] {x x' : α} (hk : k ≤ 64 := by decide) : dNe (e x) (e x') = .ok (.bl (!decide (x = x'))) := by unfold dNe; rw [eqD_dat hk]; rfl
theorem any_in [Dat e k] {x : α} {y : PyData} (hy : D.py (e x) = some y) : ∀ {xs : List α} {ys : List PyData}, D.pys (xs.map e) = some ys → (ys.any fun z => PyData.eqv z y) = decide (x ∈ xs)
  | [], ys, h => by cases h; simp
  | a :: xs, ys, h => by
    rw [List.map_cons] at h
    unfold D.pys at h
    split at h
    · rename_i z zs e1 e2
      cases h
      rw [List.any_cons, any_in hy e2, Dat.inj a x _ _ e1 hy]
      by_cases h1 : a = x
      · simp [h1]
      · simp [h1, Ne.symm h1]
    · cases h
theorem inD_dat [Dat e k] {x : α} {xs : List α} (hk : k < 64) : inD (e x) (xs.map e) = .ok (decide (x ∈ xs)) := by
  obtain ⟨y, h1, _⟩ := Dat.py (e := e) x
  obtain ⟨ys, k1, k2, k3⟩ := pys_map (e := e) xs
  unfold inD
  rw [h1, k1]
  have hs : SeqAt.shaped (.list ys) = true := by
    unfold SeqAt.shaped
    simp only [PyData.canLay0, PyData.depth, k2, Bool.true_and]
    exact decide_eq_true (by omega)
  simp only [shp (by omega) h1, hs, Bool.and_self, if_true, any_in h1 k1]
theorem op_memT [Dat e k] {x : α} {xs : List α} (hk : k < 64 := by decide) : dIn (e x) (eT e xs) = .ok (.bl (decide (x ∈ xs))) := by
  show (inD (e x) (xs.map e)).bind _ = _; rw [inD_dat hk]; rfl
theorem op_nmemL [Dat e k] {x : α} {xs : List α} (hk : k < 64 := by decide) : dNotIn (e x) (eL e xs) = .ok (.bl (!decide (x ∈ xs))) := by
  show (inD (e x) (xs.map e)).bind _ = _; rw [inD_dat hk]; rfl
theorem op_nmemT [Dat e k] {x : α} {xs : List α} (hk : k < 64 := by decide) : dNotIn (e x) (eT e xs) = .ok (.bl (!decide (x ∈ xs))) := by
  show (inD (e x) (xs.map e)).bind _ = _; rw [inD_dat hk]; rfl
end
theorem isi_of {T : String} {d : D} {b : Bool} (h : isTy T d = .ok b) : dIsi T d = .ok (.bl b) := by unfold dIsi; rw [h]; rfl
theorem isi2_a {T U : String} {d : D} (h : isTy T d = .ok true) : dIsi2 T U d = .ok (.bl true) := by unfold dIsi2; rw [h]; rfl
theorem isi2_b {T U : String} {d : D} {b : Bool} (h : isTy T d = .ok false) (k : isTy U d = .ok b) : dIsi2 T U d = .ok (.bl b) := by unfold dIsi2; rw [h]; show (isTy U d).bind _ = _; rw [k]; rfl
theorem forR_inv {α σ : Type} {f : σ → α → Res σ} {xs : List α} {s : σ} (P : Nat → σ → Prop) (h0 : P 0 s) (hs : ∀ i x s, xs[i]? = some x → P i s → ∃ s', f s x = .ok s' ∧ P (i + 1) s') : ∃ s', forR f xs s = .ok s' ∧ P xs.length s' := by
  suffices h : ∀ (ys : List α) (k : Nat) (s : σ), P k s → (∀ i x, ys[i]? = some x → xs[k + i]? = some x) → k + ys.length = xs.length → ∃ s', forR f ys s = .ok s' ∧ P xs.length s' by
    exact h xs 0 s h0 (fun i x e => by rw [Nat.zero_add]; exact e) (Nat.zero_add _)
  intro ys
  induction ys with
  | nil => intro k s hp _ hl; exact ⟨s, rfl, by rw [← hl]; exact hp⟩
  | cons y ys ih =>
    intro k s hp hx hl
    obtain ⟨s1, e1, p1⟩ := hs k y s (by have := hx 0 y rfl; simpa using this) hp
    obtain ⟨s2, e2, p2⟩ := ih (k + 1) s1 p1 (fun i x e => by
      have := hx (i + 1) x (by simpa using e)
      rw [show k + 1 + i = k + (i + 1) by omega]; exact this) (by rw [List.length_cons] at hl; omega)
    exact ⟨s2, by unfold forR; rw [e1]; exact e2, p2⟩
theorem forC_inv {α σ β : Type} {f : σ → α → Res (Ctl σ β)} {xs : List α} {s : σ} (Q : Ctl σ β → Prop) (P : Nat → σ → Prop) (h0 : P 0 s) (hs : ∀ i x s, xs[i]? = some x → P i s → ∃ o, f s x = .ok o ∧ (match o with
    | .go s' => P (i + 1) s'
    | .out s' => Q (.go s')
    | .ret b => Q (.ret b))) (hd : ∀ s, P xs.length s → Q (.go s)) : ∃ o, forC f xs s = .ok o ∧ Q o := by
  suffices h : ∀ (ys : List α) (k : Nat) (s : σ), P k s → (∀ i x, ys[i]? = some x → xs[k + i]? = some x) → k + ys.length = xs.length → ∃ o, forC f ys s = .ok o ∧ Q o by
    exact h xs 0 s h0 (fun i x e => by rw [Nat.zero_add]; exact e) (Nat.zero_add _)
  intro ys
  induction ys with
  | nil => intro k s hp _ hl; exact ⟨_, rfl, hd s (by rw [← hl]; exact hp)⟩
  | cons y ys ih =>
    intro k s hp hx hl
    obtain ⟨o, e1, p1⟩ := hs k y s (by have := hx 0 y rfl; simpa using this) hp
    cases o with
    | go s1 =>
      obtain ⟨o2, e2, p2⟩ := ih (k + 1) s1 p1 (fun i x e => by
        have := hx (i + 1) x (by simpa using e)
        rw [show k + 1 + i = k + (i + 1) by omega]; exact this) (by rw [List.length_cons] at hl; omega)
      exact ⟨o2, by unfold forC; rw [e1]; exact e2, p2⟩
    | out s1 => exact ⟨.go s1, by unfold forC; rw [e1]; rfl, p1⟩
    | ret b => exact ⟨.ret b, by unfold forC; rw [e1]; rfl, p1⟩
theorem lcR_map {α β : Type} {xs : List α} {f : α → Res β} {g : α → β} (hz : xs.length ≤ 1000000) (h : ∀ x ∈ xs, f x = .ok (g x)) : lcR xs (fun _ => .ok true) f = .ok (xs.map g) := by
  unfold lcR
  rw [if_pos (szOk_yes hz)]
  clear hz
  induction xs with
  | nil => rfl
  | cons x xs ih =>
    unfold lcR.go
    rw [h x List.mem_cons_self, ih fun y hy => h y (List.mem_cons_of_mem _ hy)]
    rfl
theorem lcR_filter {α β : Type} {xs : List α} {c : α → Res Bool} {p : α → Bool} {f : α → Res β} {g : α → β} (hz : xs.length ≤ 1000000) (hc : ∀ x ∈ xs, c x = .ok (p x)) (h : ∀ x ∈ xs, p x = true → f x = .ok (g x)) : lcR xs c f = .ok ((xs.filter p).map g) := by
  unfold lcR
  rw [if_pos (szOk_yes hz)]
  clear hz
  induction xs with
  | nil => rfl
  | cons x xs ih =>
    unfold lcR.go
    rw [hc x List.mem_cons_self, ih (fun y hy => hc y (List.mem_cons_of_mem _ hy)) fun y hy => h y (List.mem_cons_of_mem _ hy), List.filter_cons]
    cases q : p x with
    | true => rw [h x List.mem_cons_self q]; rfl
    | false => rfl
end Da
namespace Da
theorem op_isN {α : Type} {e : α → D} (h : ∀ v, dIsN (e v) = .ok (.bl false)) {x : Option α} : dIsN (eO e x) = .ok (.bl (Option.isNone x)) := by
  cases x with
  | none => rfl
  | some v => exact h v
theorem op_not1 {g : D → Res D} {x : D} {b : Bool} (h : g x = .ok (.bl b)) : dNot1 g x = .ok (.bl (!b)) := by
  unfold dNot1
  rw [h]
  rfl
end Da
namespace Da
open PySem PySem.Spec L2
section
variable {α β γ δ : Type} {K : Res Fl → Res δ} {F G : FS} {ρ : Env} {r : Res γ} {o : γ → δ} {c : Str} {ns : List Str} {fs : Env → Res (List D)} {l : List (Str × Bool)} {i k : Nat}
theorem rf_ex {m : Res β} {e : α → β} {fs : List (Str × D)} (h : m = .ex c fs) : Rf m (.ex c fs : Res α) e := h
theorem t_raise (hK : Fin K) (h : Rf ((fs ρ).bind fun ds => if ds.length = ns.length then (.ex c (ns.zip ds).reverse : Res δ) else .er) r o) : Rf (K (fSeq (fRaise c ns fs) G ρ)) r o := by
  unfold fSeq fRaise
  cases e : fs ρ with
  | ok ds =>
    rw [e] at h
    have h : Rf (if ds.length = ns.length then (.ex c (ns.zip ds).reverse : Res δ) else .er) r o := h
    show Rf (K (match (if ds.length = ns.length then .ok (.xc c (ns.zip ds).reverse ρ) else .er : Res Fl) with | .ok (.nx ρ') => G ρ' | o => o)) r o
    split at h
    · rename_i hl
      rw [if_pos hl]
      show Rf (K (.ok (.xc c (ns.zip ds).reverse ρ))) r o
      rw [hK.xc]
      exact h
    · cases r with
      | ok v => exact nomatch (show (Res.er : Res δ) = _ from h)
      | ex c fs => exact nomatch (show (Res.er : Res δ) = _ from h)
      | er => exact trivial
  | ex c' fs' =>
    rw [e] at h
    show Rf (K (.ok (.xc c' fs' ρ))) r o
    rw [hK.xc]
    exact h
  | er =>
    rw [e] at h
    cases r with
    | ok v => exact nomatch (show (Res.er : Res δ) = _ from h)
    | ex c fs => exact nomatch (show (Res.er : Res δ) = _ from h)
    | er => exact trivial
/-- a clause -/
def tryR (l : List (Str × Bool)) (r : Res γ) (g : Str → List (Str × D) → Res γ) : Res γ := match r with
  | .ex c fs => (match askOf l c with
    | some true => nx (g c fs)
    | some false => .ex c fs
    | none => .er)
  | r => r
@[simp] theorem tryR_ok {v : γ} {g : Str → List (Str × D) → Res γ} : tryR l (.ok v) g = .ok v := rfl
end
def sortPR (ps : List (Int × Int)) : Res (List (Int × Int)) := if (ps.all fun p => decide (P64 p)) = true ∧ ps.length < 64 then .ok (sortP ps) else .er
theorem pairsD_map : ∀ {ps : List (Int × Int)}, (ps.all fun p => decide (P64 p)) = true → pairsD (ps.map (eP2 D.int D.int)) = some ps
  | [], _ => rfl
  | p :: ps, h => by
    rw [List.all_cons, Bool.and_eq_true] at h
    have h1 : P64 p := of_decide_eq_true h.1
    show (match pairD (.tup [.int p.1, .int p.2]), pairsD (ps.map (eP2 D.int D.int)) with | some p, some ps => some (p :: ps) | _, _ => none) = _
    rw [pairsD_map h.2, show pairD (.tup [.int p.1, .int p.2]) = some p from if_pos h1]
theorem rf_sortSc {vs : List Nat} {it : Env → Res (List D)} {g : D → Env → Res Env} {c : Env → Res Bool} {f : Env → Res D} {ρ : Env} {r : Res (List (Int × Int))} (h : Rf (fLc vs it g c f ρ) r (eL (eP2 D.int D.int))) : Rf (fSortSc vs it g c f ρ) (r.bind sortPR) (eL (eP2 D.int D.int)) := by
  unfold fLc at h
  unfold fSortSc
  cases ei : it ρ with
  | er => rw [ei] at h; cases r with
    | er => exact trivial
    | ok v => exact nomatch (show (Res.er : Res D) = _ from h)
    | ex c fs => exact nomatch (show (Res.er : Res D) = _ from h)
  | ex c' fs' => rw [ei] at h; cases r with
    | er => exact trivial
    | ok v => exact nomatch (show (Res.ex c' fs' : Res D) = _ from h)
    | ex c fs => exact h
  | ok xs =>
    rw [ei] at h
    cases r with
    | er => exact trivial
    | ex c2 fs =>
      have h : (if szOk xs.length = true then asLst (lcGo g c f (wipeD ρ vs) xs) else .er) = Res.ex c2 fs := h
      split at h
      · unfold asLst at h
        split at h <;> cases h
      · cases h
    | ok ps =>
      have h : (if szOk xs.length = true then asLst (lcGo g c f (wipeD ρ vs) xs) else .er) = Res.ok (eL (eP2 D.int D.int) ps) := h
      split at h
      · unfold asLst at h
        split at h
        · rename_i ys ey
          have h : ys = ps.map (eP2 D.int D.int) := by
            injection h with h
            injection h
          subst h
          show Rf (match lcGo g c f (wipeD ρ vs) xs with | .ok ys => (match pairsD ys with | some ps => if ps.length < 64 then (Res.ok (D.lst ((sortP ps).map pD)) : Res D) else .er | none => .er) | _ => .er) (sortPR ps) _
          rw [ey]
          dsimp only
          unfold sortPR
          by_cases hh : (ps.all fun p => decide (P64 p)) = true ∧ ps.length < 64
          · rw [pairsD_map hh.1, if_pos hh]
            dsimp only
            rw [if_pos hh.2]
            exact rfl
          · rw [if_neg hh]
            exact trivial
        · cases h
      · cases h
def leP (p q : Int × Int) : Bool := decide (p.1 < q.1 ∨ (p.1 = q.1 ∧ p.2 ≤ q.2))
theorem leD_pair {p q : Int × Int} : leD (eP2 D.int D.int p) (eP2 D.int D.int q) = leP p q := by
  have := congrFun (congrFun (PySem.W.dataLe_ii (fun b : Int × Int => b.1) (fun b => b.2)) p) q
  exact this
theorem pys_pairs : ∀ ps : List (Int × Int), D.pys (ps.map (eP2 D.int D.int)) = some (ps.map fun p => .tuple [.int p.1, .int p.2])
  | [] => rfl
  | p :: ps => by
    rw [List.map_cons]
    unfold D.pys
    rw [pys_pairs ps]
    rfl
theorem en_pairs (ps : List (Int × Int)) : (ps.map (eP2 D.int D.int)).map D.en = ps.map fun p => PyData.tuple [.int p.1, .int p.2] := by
  rw [List.map_map]
  exact List.map_congr_left fun p _ => rfl
theorem srt_pairs (ps : List (Int × Int)) : SrtOk (ps.map (eP2 D.int D.int)) := by
  refine ⟨⟨_, pys_pairs ps⟩, ?_, ?_, fun d hd => ?_⟩
  · rw [en_pairs]
    exact PySem.W.AllAlike.of fun _ _ => by simp [PySem.W.alike, PySem.W.alikeAll]
  · rw [en_pairs]
    exact PySem.W.Sortable.tuples fun p => ⟨_, _, rfl⟩
  · obtain ⟨p, _, rfl⟩ := List.mem_map.mp hd
    show PyData.depth (.tuple [.int p.1, .int p.2]) ≤ 20
    simp [PyData.depth, PyData.depthAll]
theorem sort_pairs (ps : List (Int × Int)) : (ps.map (eP2 D.int D.int)).mergeSort leD = (ps.mergeSort leP).map (eP2 D.int D.int) :=
  (List.map_mergeSort (r := leP) (s := leD) (f := eP2 D.int D.int) (l := ps) (fun a _ b _ => (leD_pair).symm)).symm
theorem op_sortLP {xs : List (Int × Int)} : dSorted (eL (eP2 D.int D.int) xs) = .ok (eL (eP2 D.int D.int) (xs.mergeSort leP)) := by
  show (if srtOk (xs.map (eP2 D.int D.int)) = true then _ else _) = _
  rw [if_pos (show srtOk _ = true from stuck_iff.mpr (srt_pairs xs)), sort_pairs]
  rfl
def unO {α : Type} : Option α → Res α
  | some v => .ok v
  | none => .er
@[simp] theorem unO_some {α : Type} {v : α} : unO (some v) = .ok v := rfl
theorem rf_unO {α : Type} {m : Res D} {e : α → D} {x : Option α} (h : m = .ok (eO e x)) : Rf m (unO x) e := by
  cases x with
  | none => exact trivial
  | some v => exact h
theorem rf_unOI {α : Type} {m : Res D} {e : α → D} {r : Res (Option α)} (h : Rf m r (eO e)) : Rf m (r.bind unO) e := by
  cases r with
  | ok x => exact rf_unO h
  | ex c fs => exact h
  | er => exact trivial
theorem isTy_opt {α : Type} {T : String} {b : Bool} {e : α → D} {x : Option α} (h0 : isTy T .non = .ok b) (h1 : ∀ v, isTy T (e v) = .ok b) : isTy T (eO e x) = .ok b := by
  cases x with
  | none => exact h0
  | some v => exact h1 v
theorem isTy_optS {α : Type} {T : String} {e : α → D} {x : Option α} (h0 : isTy T .non = .ok false) (h1 : ∀ v, isTy T (e v) = .ok true) : isTy T (eO e x) = .ok (Option.isSome x) := by
  cases x with
  | none => exact h0
  | some v => exact h1 v
instance : Dat (eO D.int) 0 where
  py x := by
    cases x with
    | none => exact ⟨.none, rfl, rfl, by simp [PyData.depth]⟩
    | some v => exact ⟨.int v, rfl, rfl, by simp [PyData.depth]⟩
  inj x x' y y' h h' := by
    cases x with
    | none =>
      cases h
      cases x' with
      | none => cases h'; simp [PyData.eqv]
      | some v => cases h'; simp [PyData.eqv]
    | some u =>
      cases h
      cases x' with
      | none => cases h'; simp [PyData.eqv]
      | some v =>
        cases h'
        simp [PyData.eqv]
        by_cases h : u = v <;> simp [h]
/-- membership, by the told equality -/
def hasB {α : Type} [DecidableEq α] (x : α) (xs : List α) : Bool := @decide (x ∈ xs) (@List.instDecidableMemOfLawfulBEq α instBEqOfDecidableEq inferInstance x xs)
theorem hasB_iff {α : Type} [DecidableEq α] {x : α} {xs : List α} : hasB x xs = true ↔ x ∈ xs := by unfold hasB; exact decide_eq_true_iff
/-- equality, by the told instance -/
def eqB {α : Type} [DecidableEq α] (x y : α) : Bool := decide (x = y)
/-- by cases of what may be None -/
def optC {τ γ : Type} (x : Option τ) (n : Res γ) (f : τ → Res γ) : Res γ := match x with
  | none => n
  | some y => f y
@[simp] theorem optC_none {τ γ : Type} {n : Res γ} {f : τ → Res γ} : optC none n f = n := rfl
@[simp] theorem optC_some {τ γ : Type} {y : τ} {n : Res γ} {f : τ → Res γ} : optC (some y) n f = f y := rfl
theorem t_ifC {τ δ γ : Type} {K : Res Fl → Res δ} {F : FS} {o : γ → δ} {N : Res γ} {x : Option τ} {n2 : τ → Res γ} (E : Option τ → Env) (h1 : Rf (K (F (E none))) N o) (h2 : ∀ y, Rf (K (F (E (some y)))) (n2 y) o) : Rf (K (F (E x))) (optC x N n2) o := by
  cases x with
  | none => exact h1
  | some y => exact h2 y
end Da
namespace Da
open PySem PySem.Spec L2
def lenSetR (xs : List Int) : Res Int := if xs.length ≤ 1000 then .ok ((dedupI xs).length : Int) else .er
section
variable {α β γ δ σ τ : Type} {K : Res Fl → Res δ} {F G : FS} {Fk : Nat → FS} {ρ : Env} {f fa fb fj fj2 : Env → Res D} {e : α → D} {i j x y k : Nat} {r : Res α} {N : Res γ} {o : γ → δ}
theorem op_lenSetOf {xs : List Int} : Rf (lenSetOf (xs.map D.int)) (lenSetR xs) D.int := by
  unfold lenSetR lenSetOf
  rw [intsD_map]
  dsimp only
  split
  · exact rfl
  · exact trivial
theorem op_lenSet {xs : List Int} : Rf (dLenSet (eT D.int xs)) (lenSetR xs) D.int := op_lenSetOf
variable {ex : α → D} {eb : β → D} {it : Env → Res (List D)} {g : D → Env → Res Env} {fx : Env → Res (D × Env)} {vs : List Nat}
end
end Da
namespace Da
open PySem PySem.Spec L2
def eDt {κ α : Type} (kf : κ → List Key) (e : α → D) : List (κ × α) → D := fun xs => .dit (xs.map fun p => kf p.1) (xs.map fun p => e p.2)
def kI : Int → Key := Sum.inl
def kT {κ : Type} (k : κ → Key) : List κ → List Key := fun xs => xs.map k
def kP2 {α β : Type} (k : α → Key) (l : β → Key) : α × β → List Key := fun p => [k p.1, l p.2]
def dlookN {κ α : Type} [DecidableEq κ] : List (κ × α) → κ → Option α
  | [], _ => none
  | p :: xs, k => if p.1 = k then some p.2 else dlookN xs k
def dputN {κ α : Type} [DecidableEq κ] (xs : List (κ × α)) (k : κ) (v : α) : List (κ × α) := if (xs.any fun p => decide (p.1 = k)) = true then xs.map (fun p => if p.1 = k then (p.1, v) else p) else xs ++ [(k, v)]
def dgetN {κ α : Type} [DecidableEq κ] (xs : List (κ × α)) (k : κ) : Res α := match dlookN xs k with
  | some v => .ok v
  | none => .er
def dhasN {κ α : Type} [DecidableEq κ] (xs : List (κ × α)) (k : κ) : Bool := (dlookN xs k).isSome
def dputR {κ α : Type} [DecidableEq κ] (xs : List (κ × α)) (k : κ) (v : α) : Res (List (κ × α)) := if szOk (xs.length + 1) = true then .ok (dputN xs k v) else .er
def dcR {ι κ α : Type} [DecidableEq κ] (xs : List ι) (c : ι → Res Bool) (fk : ι → Res κ) (fv : ι → Res α) : Res (List (κ × α)) := if szOk xs.length = true then go xs [] else .er
where go : List ι → List (κ × α) → Res (List (κ × α))
  | [], acc => .ok acc
  | x :: xs, acc => (nx (c x)).bind fun b => if b = true then (nx (fk x)).bind fun k => (nx (fv x)).bind fun v => go xs (dputN acc k v) else go xs acc
def Inj {α β : Type} (f : α → β) : Prop := ∀ x y, f x = f y → x = y
theorem inj_kI : Inj kI := fun x y h => by unfold kI at h; injection h
theorem inj_kP2 {α β : Type} {k : α → Key} {l : β → Key} (h : Inj k) (h2 : Inj l) : Inj (kP2 k l) := fun x y e => by
  unfold kP2 at e
  injection e with e1 e2
  injection e2 with e2 _
  exact Prod.ext (h _ _ e1) (h2 _ _ e2)
theorem kd_I (x : Int) : keyD (D.int x) = some (kI x) := rfl
theorem kd_P2 {α β : Type} {e : α → D} {f : β → D} {k : α → Key} {l : β → Key} (h : ∀ x, keyD (e x) = some (k x)) (h2 : ∀ x, keyD (f x) = some (l x)) (x : α × β) : keyT (eP2 e f x) = some (kP2 k l x) := by
  show keysD [e x.1, f x.2] = _
  unfold keysD
  rw [h]
  unfold keysD
  rw [h2]
  rfl
section
variable {κ α β γ δ τ ι : Type} [DecidableEq κ] {kf : κ → Key} {kt : κ → List Key} {ek : κ → D} {e : α → D} {xs : List (κ × α)} {k : κ} {ρ : Env} {f fj fa fb : Env → Res D} {i : Nat}
theorem lookT_N (hi : Inj kt) : ∀ (xs : List (κ × α)) (k : κ), lookT (xs.map fun p => kt p.1) (xs.map fun p => e p.2) (kt k) = (dlookN xs k).map e
  | [], k => rfl
  | p :: xs, k => by
    show (if kt p.1 = kt k then some (e p.2) else lookT _ _ _) = _
    unfold dlookN
    by_cases h : p.1 = k
    · rw [if_pos h, if_pos (by rw [h])]; rfl
    · rw [if_neg h, if_neg (fun z => h (hi _ _ z))]; exact lookT_N hi xs k
theorem any_inj {β : Type} [DecidableEq β] {g : κ → β} (hi : Inj g) (xs : List (κ × α)) (k : κ) : ((xs.map fun p => g p.1).any fun j => decide (j = g k)) = xs.any fun p => decide (p.1 = k) := by
  rw [List.any_map]
  congr 1
  funext p
  show decide (g p.1 = g k) = decide (p.1 = k)
  exact decide_eq_decide.mpr ⟨fun z => hi _ _ z, fun z => by rw [z]⟩
theorem zip_mm {A B C : Type} (f : C → A) (g : C → B) (h : A × B → B) : ∀ xs : List C, ((xs.map f).zip (xs.map g)).map h = xs.map fun c => h (f c, g c)
  | [] => rfl
  | x :: xs => by rw [List.map_cons, List.map_cons, List.zip_cons_cons, List.map_cons, zip_mm f g h xs]; rfl
theorem putT_N (hi : Inj kt) (v : α) : putKsT (xs.map fun p => kt p.1) (kt k) = (dputN xs k v).map (fun p => kt p.1) ∧ putVsT (xs.map fun p => kt p.1) (xs.map fun p => e p.2) (kt k) (e v) = (dputN xs k v).map (fun p => e p.2) := by
  unfold putKsT putVsT dputN
  rw [any_inj hi]
  by_cases h : (xs.any fun p => decide (p.1 = k)) = true
  · rw [if_pos h, if_pos h, if_pos h]
    refine ⟨?_, ?_⟩
    · rw [List.map_map]
      refine List.map_congr_left fun p _ => ?_
      show kt p.1 = kt (if p.1 = k then (p.1, v) else p).1
      split <;> rfl
    · rw [zip_mm, List.map_map]
      refine List.map_congr_left fun p _ => ?_
      show (if kt p.1 = kt k then e v else e p.2) = e (if p.1 = k then (p.1, v) else p).2
      by_cases z : p.1 = k
      · rw [if_pos z, if_pos (by rw [z])]
      · rw [if_neg z, if_neg (fun w => z (hi _ _ w))]
  · rw [if_neg h, if_neg h, if_neg h]
    rw [List.map_append, List.map_append]
    exact ⟨rfl, rfl⟩
theorem op_dgetT (hk : ∀ x, keyT (ek x) = some (kt x)) (hi : Inj kt) : Rf (dGetT (eDt kt e xs) (ek k)) (dgetN xs k) e := by
  unfold dgetN
  show Rf (match eDt kt e xs, keyT (ek k) with
    | .dit ks ds, some k => (match lookT ks ds k with
      | some d => Res.ok d
      | none => .er)
    | _, _ => .er) _ _
  rw [hk]
  show Rf (match lookT (xs.map fun p => kt p.1) (xs.map fun p => e p.2) (kt k) with
      | some d => Res.ok d
      | none => .er) _ _
  rw [lookT_N hi]
  cases dlookN xs k with
  | some v => exact rfl
  | none => exact trivial
theorem op_dhasT {neg : Bool} (hk : ∀ x, keyT (ek x) = some (kt x)) (hi : Inj kt) : dHasT neg (ek k) (eDt kt e xs) = .ok (.bl (dhasN xs k != neg)) := by
  unfold dhasN
  show (match eDt kt e xs, keyT (ek k) with
    | .dit ks ds, some k => Res.ok (D.bl ((lookT ks ds k).isSome != neg))
    | _, _ => .er) = _
  rw [hk]
  show Res.ok (D.bl ((lookT (xs.map fun p => kt p.1) (xs.map fun p => e p.2) (kt k)).isSome != neg)) = _
  rw [lookT_N hi, Option.isSome_map]
theorem s_putT {r : Res α} {rj : Res κ} (hk : ∀ x, keyT (ek x) = some (kt x)) (hi : Inj kt) (E : List (κ × α) → Env) (h : ρ[i]? = some (some (eDt kt e xs))) (hf : Rf (f ρ) r e) (hj : Rf (fj ρ) rj ek) (hE : ∀ ys, ρ.set i (some (eDt kt e ys)) = E ys) : Rf (finS [] (fPutT i f fj ρ)) (r.bind fun d => rj.bind fun k => dputR xs k d) (fun ys => .nx (E ys)) := by
  unfold fPutT
  rw [h]
  dsimp only [eDt]
  refine s_liftI hf fun d => s_liftI hj fun k => ?_
  rw [hk]
  dsimp only
  unfold dputR
  rw [List.length_map]
  split
  · show Res.ok (Fl.nx _) = Res.ok (Fl.nx _)
    obtain ⟨p1, p2⟩ := putT_N (xs := xs) (k := k) (e := e) hi d
    rw [← hE, show eDt kt e (dputN xs k d) = .dit ((dputN xs k d).map fun p => kt p.1) ((dputN xs k d).map fun p => e p.2) from rfl, ← p1, ← p2]
    rfl
  · exact trivial
variable {it : Env → Res (List D)} {g : D → Env → Res Env} {c : Env → Res Bool} {fk fv : Env → Res D} {vs : List Nat} {ex : ι → D}
end
theorem op_dhasTN {κ α : Type} [DecidableEq κ] {kt : κ → List Key} {ek : κ → D} {e : α → D} {xs : List (κ × α)} {k : κ} (hk : ∀ x, keyT (ek x) = some (kt x)) (hi : Inj kt) : dHasT true (ek k) (eDt kt e xs) = .ok (.bl (!dhasN xs k)) := by rw [op_dhasT hk hi]; cases dhasN xs k <;> rfl
end Da
namespace Kx
open PySem PySem.Spec L2 Da
section
variable {α κ γ : Type} {ρ : Da.Env} {fa fb fc : Da.Env → Res D} {x y z d : D} {g3 : D → D → D → Res D} {N : Res γ} {o' : γ → D}
theorem ev3 (ha : fa ρ = .ok x) (hb : fb ρ = .ok y) (hc : fc ρ = .ok z) (hg : g3 x y z = .ok d) : f3 g3 fa fb fc ρ = .ok d := by
  unfold f3
  rw [ha]
  show (fb ρ).bind _ = _
  rw [hb]
  show (fc ρ).bind _ = _
  rw [hc]
  exact hg
end
end Kx
namespace Kx
open PySem PySem.Spec L2 Da
section
variable {α β γ δ : Type} [DecidableEq α] [DecidableEq β] [DecidableEq γ] [DecidableEq δ] {e : α → D} {f : β → D} {g : γ → D} {h : δ → D} {k l m n : Nat}
theorem pys3 {a b c : D} {ys : List PyData} (q : D.pys [a, b, c] = some ys) : ∃ x y z, ys = [x, y, z] ∧ D.py a = some x ∧ D.py b = some y ∧ D.py c = some z := by
  unfold D.pys at q
  split at q
  · rename_i x xs e1 e2
    cases q
    unfold D.pys at e2
    split at e2
    · rename_i y ys e3 e4
      cases e2
      unfold D.pys at e4
      split at e4
      · rename_i z zs e5 e6
        cases e4
        cases e6
        exact ⟨x, y, z, rfl, e1, e3, e5⟩
      · cases e4
    · cases e2
  · cases q
theorem pys4 {a b c d : D} {ys : List PyData} (q : D.pys [a, b, c, d] = some ys) : ∃ x y z w, ys = [x, y, z, w] ∧ D.py a = some x ∧ D.py b = some y ∧ D.py c = some z ∧ D.py d = some w := by
  unfold D.pys at q
  split at q
  · rename_i x xs e1 e2
    cases q
    obtain ⟨y, z, w, rfl, h2, h3, h4⟩ := pys3 e2
    exact ⟨x, y, z, w, rfl, e1, h2, h3, h4⟩
  · cases q
instance [Dat e k] [Dat f l] [Dat g m] [Dat h n] : Dat (eH4 e f g h) (max (max k l) (max m n) + 1) where
  py p := by
    obtain ⟨y1, a1, b1, c1⟩ := Dat.py (e := e) p.1
    obtain ⟨y2, a2, b2, c2⟩ := Dat.py (e := f) p.2.1
    obtain ⟨y3, a3, b3, c3⟩ := Dat.py (e := g) p.2.2.1
    obtain ⟨y4, a4, b4, c4⟩ := Dat.py (e := h) p.2.2.2
    refine ⟨.list [y1, y2, y3, y4], py_lst' ?_, ?_, ?_⟩
    · simp only [D.pys, a1, a2, a3, a4]
    · simp only [PyData.canLay0, PyData.canLayAll0, b1, b2, b3, b4, Bool.and_self]
    · simp only [PyData.depth, PyData.depthAll]; omega
  inj p q y y' u u' := by
    obtain ⟨ys, w, rfl⟩ := py_lst_of u
    obtain ⟨ys', w', rfl⟩ := py_lst_of u'
    obtain ⟨y1, y2, y3, y4, rfl, a1, a2, a3, a4⟩ := pys4 w
    obtain ⟨z1, z2, z3, z4, rfl, b1, b2, b3, b4⟩ := pys4 w'
    simp only [PyData.eqv, PyData.eqvAll, Bool.and_true]
    rw [Dat.inj p.1 q.1 _ _ a1 b1, Dat.inj p.2.1 q.2.1 _ _ a2 b2, Dat.inj p.2.2.1 q.2.2.1 _ _ a3 b3, Dat.inj p.2.2.2 q.2.2.2 _ _ a4 b4]
    obtain ⟨p1, p2, p3, p4⟩ := p
    obtain ⟨q1, q2, q3, q4⟩ := q
    by_cases h1 : p1 = q1 <;> by_cases h2 : p2 = q2 <;> by_cases h3 : p3 = q3 <;> by_cases h4 : p4 = q4 <;> simp [h1, h2, h3, h4]
instance [Dat e k] [Dat f l] [Dat g m] [Dat h n] : Dat (eP4 e f g h) (max (max k l) (max m n) + 1) where
  py p := by
    obtain ⟨y1, a1, b1, c1⟩ := Dat.py (e := e) p.1
    obtain ⟨y2, a2, b2, c2⟩ := Dat.py (e := f) p.2.1
    obtain ⟨y3, a3, b3, c3⟩ := Dat.py (e := g) p.2.2.1
    obtain ⟨y4, a4, b4, c4⟩ := Dat.py (e := h) p.2.2.2
    refine ⟨.tuple [y1, y2, y3, y4], py_tup' ?_, ?_, ?_⟩
    · simp only [D.pys, a1, a2, a3, a4]
    · simp only [PyData.canLay0, PyData.canLayAll0, b1, b2, b3, b4, Bool.and_self]
    · simp only [PyData.depth, PyData.depthAll]; omega
  inj p q y y' u u' := by
    obtain ⟨ys, w, rfl⟩ := py_tup_of u
    obtain ⟨ys', w', rfl⟩ := py_tup_of u'
    obtain ⟨y1, y2, y3, y4, rfl, a1, a2, a3, a4⟩ := pys4 w
    obtain ⟨z1, z2, z3, z4, rfl, b1, b2, b3, b4⟩ := pys4 w'
    simp only [PyData.eqv, PyData.eqvAll, Bool.and_true]
    rw [Dat.inj p.1 q.1 _ _ a1 b1, Dat.inj p.2.1 q.2.1 _ _ a2 b2, Dat.inj p.2.2.1 q.2.2.1 _ _ a3 b3, Dat.inj p.2.2.2 q.2.2.2 _ _ a4 b4]
    obtain ⟨p1, p2, p3, p4⟩ := p
    obtain ⟨q1, q2, q3, q4⟩ := q
    by_cases h1 : p1 = q1 <;> by_cases h2 : p2 = q2 <;> by_cases h3 : p3 = q3 <;> by_cases h4 : p4 = q4 <;> simp [h1, h2, h3, h4]
end
end Kx
namespace Da
open PySem PySem.Spec L2
section
variable {α β γ : Type} [DecidableEq α] [DecidableEq β] [DecidableEq γ] {e : α → D} {f : β → D} {g : γ → D} {k l m : Nat}
instance [Dat e k] [Dat f l] [Dat g m] : Dat (eP3 e f g) (max (max k l) m + 1) where
  py p := by
    obtain ⟨y1, a1, b1, c1⟩ := Dat.py (e := e) p.1
    obtain ⟨y2, a2, b2, c2⟩ := Dat.py (e := f) p.2.1
    obtain ⟨y3, a3, b3, c3⟩ := Dat.py (e := g) p.2.2
    refine ⟨.tuple [y1, y2, y3], py_tup' ?_, ?_, ?_⟩
    · simp only [D.pys, a1, a2, a3]
    · simp only [PyData.canLay0, PyData.canLayAll0, b1, b2, b3, Bool.and_self]
    · simp only [PyData.depth, PyData.depthAll]; omega
  inj p q y y' u u' := by
    obtain ⟨ys, w, rfl⟩ := py_tup_of u
    obtain ⟨ys', w', rfl⟩ := py_tup_of u'
    obtain ⟨y1, y2, y3, rfl, a1, a2, a3⟩ := Kx.pys3 w
    obtain ⟨z1, z2, z3, rfl, b1, b2, b3⟩ := Kx.pys3 w'
    simp only [PyData.eqv, PyData.eqvAll, Bool.and_true]
    rw [Dat.inj p.1 q.1 _ _ a1 b1, Dat.inj p.2.1 q.2.1 _ _ a2 b2, Dat.inj p.2.2 q.2.2 _ _ a3 b3]
    obtain ⟨p1, p2, p3⟩ := p
    obtain ⟨q1, q2, q3⟩ := q
    by_cases h1 : p1 = q1 <;> by_cases h2 : p2 = q2 <;> by_cases h3 : p3 = q3 <;> simp [h1, h2, h3]
end
end Da
namespace Da
open PySem PySem.Spec L2 PyProof.Rows
end Da
namespace Da
open PySem PySem.Spec L2
end Da
namespace Da
open PySem PySem.Spec L2
end Da
namespace Da
open PySem PySem.Spec L2 PyProof.Rows
end Da
namespace Da
open PySem PySem.Spec L2
section
variable {α β : Type} [DecidableEq α] [DecidableEq β] {e : α → D} {f : β → D} {k l : Nat}
instance [Dat e k] [Dat f l] : Dat (eH2 e f) (max k l + 1) where
  py x := by
    obtain ⟨y, h1, h2, h3⟩ := Dat.py (e := e) x.1
    obtain ⟨z, k1, k2, k3⟩ := Dat.py (e := f) x.2
    refine ⟨.list [y, z], py_lst' (pys2 h1 k1), ?_, ?_⟩
    · simp only [PyData.canLay0, PyData.canLayAll0, h2, k2, Bool.and_self]
    · simp only [PyData.depth, PyData.depthAll]; omega
  inj x x' y y' h h' := by
    obtain ⟨ys, h1, rfl⟩ := py_lst_of h
    obtain ⟨ys', h1', rfl⟩ := py_lst_of h'
    obtain ⟨a, b, ea, eb, rfl⟩ := pys2_of h1
    obtain ⟨a', b', ea', eb', rfl⟩ := pys2_of h1'
    simp only [PyData.eqv, PyData.eqvAll, Dat.inj _ _ _ _ ea ea', Dat.inj _ _ _ _ eb eb']
    by_cases h1 : x.1 = x'.1 <;> by_cases h2 : x.2 = x'.2 <;> simp [h1, h2, Prod.ext_iff]
end
end Da
namespace Da
open PySem PySem.Spec L2
section
variable {ι κ α : Type} [DecidableEq κ] {kt : κ → List Key} {ek : κ → D} {e : α → D} {ρ : Env}
variable {it : Env → Res (List D)} {g : D → Env → Res Env} {c : Env → Res Bool} {fk fv : Env → Res D} {vs : List Nat} {ex : ι → D}
theorem dcGoT_rf {rc : ι → Res Bool} {rk : ι → Res κ} {rv : ι → Res α} {E1 : ι → Env} (hK : ∀ x, keyT (ek x) = some (kt x)) (hi : Inj kt) (hg : ∀ x, g (ex x) ρ = .ok (E1 x)) (hc : ∀ x, Rf (c (E1 x)) (rc x) (fun b => b)) (hk : ∀ x, Rf (fk (E1 x)) (rk x) ek) (hv : ∀ x, Rf (fv (E1 x)) (rv x) e) : ∀ (ys : List ι) (acc : List (κ × α)), match dcR.go rc rk rv ys acc with
    | .ok w => dcGoT g c fk fv ρ (ys.map ex) (acc.map fun p => kt p.1) (acc.map fun p => e p.2) = .ok (w.map (fun p => kt p.1), w.map (fun p => e p.2))
    | .ex _ _ => False
    | .er => True
  | [], acc => rfl
  | x :: ys, acc => by
    unfold dcR.go
    rw [List.map_cons]
    unfold dcGoT
    rw [hg]
    have h1 := hc x
    cases q : rc x with
    | ok b =>
      rw [q] at h1
      have h1 : c (E1 x) = .ok b := h1
      dsimp only
      rw [h1]
      cases b with
      | false => exact dcGoT_rf hK hi hg hc hk hv ys acc
      | true =>
        have h2 := hk x
        have h3 := hv x
        cases q2 : rk x with
        | ok k =>
          rw [q2] at h2
          have h2 : fk (E1 x) = .ok (ek k) := h2
          cases q3 : rv x with
          | ok v =>
            rw [q3] at h3
            have h3 : fv (E1 x) = .ok (e v) := h3
            dsimp only
            rw [h2]
            dsimp only
            rw [h3]
            dsimp only
            rw [hK]
            dsimp only
            obtain ⟨p1, p2⟩ := putT_N (xs := acc) (k := k) (e := e) hi v
            rw [p1, p2]
            exact dcGoT_rf hK hi hg hc hk hv ys (dputN acc k v)
          | ex _ _ => exact trivial
          | er => exact trivial
        | ex _ _ => exact trivial
        | er => exact trivial
    | ex _ _ => exact trivial
    | er => exact trivial
theorem rf_dcpT {rc : ι → Res Bool} {rk : ι → Res κ} {rv : ι → Res α} {ys : List ι} (hK : ∀ x, keyT (ek x) = some (kt x)) (hi : Inj kt) (hit : it ρ = .ok (ys.map ex)) (E1 : ι → Env) (hg : ∀ x, g (ex x) (wipeD ρ vs) = .ok (E1 x)) (hc : ∀ x, Rf (c (E1 x)) (rc x) (fun b => b)) (hk : ∀ x, Rf (fk (E1 x)) (rk x) ek) (hv : ∀ x, Rf (fv (E1 x)) (rv x) e) : Rf (fDcT vs it g c fk fv ρ) (dcR ys rc rk rv) (eDt kt e) := by
  unfold fDcT dcR
  rw [hit]
  show Rf (if szOk (ys.map ex).length = true then _ else _) _ _
  rw [List.length_map]
  split
  · have := dcGoT_rf hK hi hg hc hk hv ys []
    cases q : dcR.go rc rk rv ys [] with
    | ok w => rw [q] at this; have this : dcGoT g c fk fv (wipeD ρ vs) (ys.map ex) [] [] = .ok (w.map (fun p => kt p.1), w.map (fun p => e p.2)) := this; rw [this]; exact rfl
    | ex _ _ => rw [q] at this; exact this.elim
    | er => exact trivial
  · exact trivial
end
end Da
namespace Kx
open PySem PySem.Spec L2 Da
def F_law_digits : FS := (fSeq (fSet 2 (fOn gLstD fA0))
    (fSeq (fSet 3 (fOn (on1 dInt) (fA (fV 0) fA0)))
    (fSeq (fIfS (fB (f2 dGe (fV 3) (f2 dPow (fC (.int 10)) (fC (.int 18))))) (fSeq (fSet 3 (f2 dSub (fV 3) (f2 dPow (fC (.int 10)) (fC (.int 18)))))
    (fSeq (fFor (fL (fV 1)) (gN 6) (fFgt [6] (fSeq (fApp 2 (f2 dMod (fOn (on1 dInt) (fA (fV 3) fA0)) (fV 6)))
    (fSet 3 (f2 dDiv (fOn (on1 dInt) (fA (fV 3) fA0)) (fV 6))))))
    (fRet (fV 2)))) fNext)
    (fSeq (fSet 4 (f2 dMod (fOn (on1 dInt) (fA (fV 3) fA0)) (fC (.int 2147483629))))
    (fSeq (fFor (fR1 (fA (fOn (on1 dLen) (fA (fV 1) fA0)) fA0)) (gN 5) (fFgt [5, 7] (fSeq (fSet 4 (f2 dMod (fOn (on1 dInt) (fA (f2 dAdd (f2 dAdd (f2 dMul (fV 4) (fC (.int 48271))) (f2 dMul (fC (.int 974711)) (fV 5))) (fC (.int 12345))) fA0)) (fC (.int 2147483647))))
    (fSeq (fSet 7 (f2 dMod (fOn (on1 dInt) (fA (f2 dMul (fV 4) (f2 dAdd (f2 dDiv (fV 4) (fC (.int 65537))) (fC (.int 3)))) fA0)) (fC (.int 2147483629))))
    (fApp 2 (f2 dMod (f2 dDiv (fV 7) (fC (.int 19))) (f2 dIx (fV 1) (fV 5))))))))
    (fRet (fV 2)))))))
def m_law_digits : List D → Res D := runF 8 .ow F_law_digits
def F_law_cell : FS := (fSeq (fIfS (fB (f2 dLt (fV 1) (fOn (on1 dLen) (fA (fV 0) fA0)))) (fRet (f2 dIx (fV 0) (fV 1))) fNext)
    (fSeq (fSet 2 (fC (.int 17)))
    (fSeq (fFor (fL (fV 0)) (gN 3) (fFgt [3] (fSet 2 (f2 dMod (fOn (on1 dInt) (fA (f2 dAdd (f2 dMul (fV 2) (fC (.int 31))) (f2 dMod (fOn (on1 dInt) (fA (fV 3) fA0)) (fC (.int 1000003)))) fA0)) (fC (.int 1000003))))))
    (fRet (f2 dMod (fOn (on1 dInt) (fA (f2 dMul (f2 dMul (f2 dAdd (fV 2) (fC (.int 7))) (f2 dAdd (fV 1) (fC (.int 3)))) (fC (.int 69621))) fA0)) (fC (.int 2147483647)))))))
def m_law_cell : List D → Res D := runF 4 .sh F_law_cell
def F_law_whole : FS := (fRet (fBv (fAnd (fB (f1 (dIsi "int") (fV 0))) (fB (fBv (fNot (fB (f1 (dIsi "bool") (fV 0)))))))))
def m_law_whole : List D → Res D := runF 1 .sh F_law_whole
def F_law_same (rec : List D → Res D) : FS := (fSeq (fIfS (fOr (fTr (f1 (dIsi "tuple") (fV 1))) (fTr (f1 (dIsi "list") (fV 1)))) (fSeq (fIfS (fOr (fNot (fTr (f1 (dIsi "tuple") (fV 0)))) (fB (f2 dNe (fOn (on1 dLen) (fA (fV 0) fA0)) (fOn (on1 dLen) (fA (fV 1) fA0))))) (fRet (fC (.bl false))) fNext)
    (fSeq (fFor (fR1 (fA (fOn (on1 dLen) (fA (fV 1) fA0)) fA0)) (gN 2) (fFgt [2] (fIfS (fNot (fTr (fOn (chk 2 rec) (fA (f2 dIx (fV 0) (fV 2)) (fA (f2 dIx (fV 1) (fV 2)) fA0))))) (fRet (fC (.bl false))) fNext)))
    (fRet (fC (.bl true))))) fNext)
    (fSeq (fIfS (fB (f1 dIsN (fV 1))) (fRet (f1 dIsN (fV 0))) fNext)
    (fSeq (fIfS (fB (f1 (dIsB true) (fV 1))) (fRet (f1 (dIsB true) (fV 0))) fNext)
    (fSeq (fIfS (fB (f1 (dIsB false) (fV 1))) (fRet (f1 (dIsB false) (fV 0))) fNext)
    (fSeq (fIfS (fTr (f1 (dIsi "str") (fV 1))) (fRet (fBv (fAnd (fB (f1 (dIsi "str") (fV 0))) (fB (f2 dEq (fV 0) (fV 1)))))) fNext)
    (fRet (fBv (fAnd (fB (fOn (chk 1 m_law_whole) (fA (fV 0) fA0))) (fB (f2 dEq (fV 0) (fV 1)))))))))))
def r_law_same : Nat → List D → Res D
  | 0 => fun _ => .er
  | n + 1 => runF 3 .sh (F_law_same (r_law_same n))
def m_law_same : List D → Res D := r_law_same 6
def N_law_cell_fi_i (a0 : (List Int)) (a1 : Int) : Res Int :=
  (if (decide (a1 < (a0.length : Int))) = true then (ixR a0 a1) else
  ((forR (σ := Int) (fun x1 x2 => (((((mulR x1 31).bind fun x3 => (Res.ok (x3 + (x2 % 1000003)))).bind fun x4 => (Res.ok x4)).bind fun x5 => (Res.ok (x5 % 1000003))).bind fun x6 =>
  Res.ok x6)) a0 17).bind fun x7 =>
  ((((mulR (x7 + 7) (a1 + 3)).bind fun x8 => (mulR x8 69621)).bind fun x9 => (Res.ok x9)).bind fun x10 => (Res.ok (x10 % 2147483647)))))
theorem n_law_cell_fi_i (a0 : (List Int)) (a1 : Int) : Rf (m_law_cell [(eF D.int) a0, D.int a1]) (N_law_cell_fi_i a0 a1) D.int :=
  n_runF ((t_if (evB (ev2 rfl (evOn (evA rfl rfl) op_lenF) rfl)) (t_retF (q_f2 (b_p rfl (b_p rfl op_ixF))))
  (t_nextS (t_seqp [some ((eF D.int) a0), some (D.int a1), some (D.int 17), none] (set_p rfl rfl) (t_seq fin_F (fun x7 : Int => [some ((eF D.int) a0), some (D.int a1), some (D.int x7), none]) (s_forp (ex := D.int) (s0 := 17) (it_F (e := D.int) (xs := a0) rfl) (fun x1 : Int => [some ((eF D.int) a0), some (D.int a1), some (D.int x1), none]) (fun (x1 : Int) (x2 : Int) => [some ((eF D.int) a0), some (D.int a1), some (D.int x1), some (D.int x2)]) rfl (fun _ _ => rfl) fun x1 x2 =>
  (t_seq fin_L (fun x6 : Int => [some ((eF D.int) a0), some (D.int a1), some (D.int x6), some (D.int x2)]) (s_set (e := D.int) _ (q_f2 (b_i (q_on (a_i (q_f2 (b_i (q_f2 (b_p rfl (b_p rfl op_mul))) fun x3 => (b_p (ev2 rfl rfl (op_modp (by decide))) (rf_ok rfl)))) fun x4 => (a_0 (rf_ok rfl)))) fun x5 => (b_p rfl (rf_ok (op_modp (by decide)))))) fun _ => rfl) fun x6 =>
  (t_next rfl))) fun x7 =>
  (t_end (t_retF (q_f2 (b_i (q_on (a_i (q_f2 (b_i (q_f2 (b_p rfl (b_p rfl op_mul))) fun x8 => (b_p rfl op_mul))) fun x9 => (a_0 (rf_ok rfl)))) fun x10 => (b_p rfl (rf_ok (op_modp (by decide)))))))))))))
def N_law_digits_i_li (a0 : Int) (a1 : (List Int)) : Res (List Int) :=
  (((powR 10 18).bind fun x1 => (Res.ok (decide (x1 ≤ a0)))).bind fun x26 => if x26 = true then (((powR 10 18).bind fun x2 => (Res.ok (a0 - x2))).bind fun x3 =>
  ((forR (σ := ((List Int) × Int)) (fun x4 x5 => (((modR x4.2 x5).bind fun x6 => appR x4.1 x6).bind fun x7 =>
  ((divR x4.2 x5).bind fun x8 =>
  Res.ok (x7, x8)))) a1 ([], x3)).bind fun x9 =>
  (Res.ok x9.1))) else
  (((rngR (a1.length : Int)).bind fun x24 => (forR (σ := ((List Int) × Int)) (fun x10 x11 => ((((((mulR x10.2 48271).bind fun x12 => ((mulR 974711 x11).bind fun x13 => (Res.ok (x12 + x13)))).bind fun x14 => (Res.ok (x14 + 12345))).bind fun x15 => (Res.ok x15)).bind fun x16 => (Res.ok (x16 % 2147483647))).bind fun x17 =>
  ((((mulR x17 ((x17 / 65537) + 3)).bind fun x18 => (Res.ok x18)).bind fun x19 => (Res.ok (x19 % 2147483629))).bind fun x20 =>
  ((((ixR a1 x11).bind fun x21 => (modR (x20 / 19) x21)).bind fun x22 => appR x10.1 x22).bind fun x23 =>
  Res.ok (x23, x17))))) x24 ([], (a0 % 2147483629)))).bind fun x25 =>
  (Res.ok x25.1)))
theorem n_law_digits_i_li (a0 : Int) (a1 : (List Int)) : Rf (m_law_digits [D.int a0, (eL D.int) a1]) (N_law_digits_i_li a0 a1) (eL D.int) :=
  n_runF ((t_seqp [some (D.int a0), some ((eL D.int) a1), some ((eL D.int) []), none, none, none, none, none] (set_p rfl rfl) (t_seqp [some (D.int a0), some ((eL D.int) a1), some ((eL D.int) []), some (D.int a0), none, none, none, none] (set_p rfl rfl) (t_ifI fin_F (q_B (b_iB (q_f2 (b_p rfl (b_i (q_f2 (b_p rfl (b_p rfl op_pow))) fun x1 => (rf_ok rfl)))))) (t_assoc (t_seq fin_F (fun x3 : Int => [some (D.int a0), some ((eL D.int) a1), some ((eL D.int) []), some (D.int x3), none, none, none, none]) (s_set (e := D.int) _ (q_f2 (b_p rfl (b_i (q_f2 (b_p rfl (b_p rfl op_pow))) fun x2 => (rf_ok rfl)))) fun _ => rfl) fun x3 =>
  (t_assoc (t_seq fin_F (fun x9 : ((List Int) × Int) => [some (D.int a0), some ((eL D.int) a1), some ((eL D.int) x9.1), some (D.int x9.2), none, none, none, none]) (s_forp (ex := D.int) (s0 := ([], x3)) (it_L (e := D.int) (xs := a1) rfl) (fun x4 : ((List Int) × Int) => [some (D.int a0), some ((eL D.int) a1), some ((eL D.int) x4.1), some (D.int x4.2), none, none, none, none]) (fun (x4 : ((List Int) × Int)) (x5 : Int) => [some (D.int a0), some ((eL D.int) a1), some ((eL D.int) x4.1), some (D.int x4.2), none, none, some (D.int x5), none]) rfl (fun _ _ => rfl) fun x4 x5 =>
  (t_assoc (t_seq fin_L (fun x7 : (List Int) => [some (D.int a0), some ((eL D.int) a1), some ((eL D.int) x7), some (D.int x4.2), none, none, some (D.int x5), none]) (s_appI (e := D.int) (xs := x4.1) (fun ys : (List Int) => [some (D.int a0), some ((eL D.int) a1), some ((eL D.int) ys), some (D.int x4.2), none, none, some (D.int x5), none]) rfl (q_f2 (b_p rfl (b_p rfl op_mod))) fun _ => rfl) fun x7 =>
  (t_seq fin_L (fun x8 : Int => [some (D.int a0), some ((eL D.int) a1), some ((eL D.int) x7), some (D.int x8), none, none, some (D.int x5), none]) (s_set (e := D.int) _ (q_f2 (b_p rfl (b_p rfl op_div))) fun _ => rfl) fun x8 =>
  (t_next rfl))))) fun x9 =>
  (t_retF (rf_ok (e := (eL D.int)) rfl))))))
  (t_nextS (t_seqp [some (D.int a0), some ((eL D.int) a1), some ((eL D.int) []), some (D.int a0), some (D.int (a0 % 2147483629)), none, none, none] (set_p (ev2 rfl rfl (op_modp (by decide))) rfl) (t_seq fin_F (fun x25 : ((List Int) × Int) => [some (D.int a0), some ((eL D.int) a1), some ((eL D.int) x25.1), some (D.int a0), some (D.int x25.2), none, none, none]) (s_for (ex := D.int) (s0 := ([], (a0 % 2147483629))) (q_R1 (a_p (evOn (evA rfl rfl) op_lenL) (a_0 k_R1))) (fun x10 : ((List Int) × Int) => [some (D.int a0), some ((eL D.int) a1), some ((eL D.int) x10.1), some (D.int a0), some (D.int x10.2), none, none, none]) (fun (x10 : ((List Int) × Int)) (x11 : Int) => [some (D.int a0), some ((eL D.int) a1), some ((eL D.int) x10.1), some (D.int a0), some (D.int x10.2), some (D.int x11), none, none]) rfl (fun _ _ => rfl) fun x10 x11 =>
  (t_assoc (t_seq fin_L (fun x17 : Int => [some (D.int a0), some ((eL D.int) a1), some ((eL D.int) x10.1), some (D.int a0), some (D.int x17), some (D.int x11), none, none]) (s_set (e := D.int) _ (q_f2 (b_i (q_on (a_i (q_f2 (b_i (q_f2 (b_i (q_f2 (b_p rfl (b_p rfl op_mul))) fun x12 => (b_i (q_f2 (b_p rfl (b_p rfl op_mul))) fun x13 => (rf_ok rfl)))) fun x14 => (b_p rfl (rf_ok rfl)))) fun x15 => (a_0 (rf_ok rfl)))) fun x16 => (b_p rfl (rf_ok (op_modp (by decide)))))) fun _ => rfl) fun x17 =>
  (t_assoc (t_seq fin_L (fun x20 : Int => [some (D.int a0), some ((eL D.int) a1), some ((eL D.int) x10.1), some (D.int a0), some (D.int x17), some (D.int x11), none, some (D.int x20)]) (s_set (e := D.int) _ (q_f2 (b_i (q_on (a_i (q_f2 (b_p rfl (b_p (ev2 (ev2 rfl rfl (op_divp (by decide) (by decide))) rfl rfl) op_mul))) fun x18 => (a_0 (rf_ok rfl)))) fun x19 => (b_p rfl (rf_ok (op_modp (by decide)))))) fun _ => rfl) fun x20 =>
  (t_seq fin_L (fun x23 : (List Int) => [some (D.int a0), some ((eL D.int) a1), some ((eL D.int) x23), some (D.int a0), some (D.int x17), some (D.int x11), none, some (D.int x20)]) (s_appI (e := D.int) (xs := x10.1) (fun ys : (List Int) => [some (D.int a0), some ((eL D.int) a1), some ((eL D.int) ys), some (D.int a0), some (D.int x17), some (D.int x11), none, some (D.int x20)]) rfl (q_f2 (b_p (ev2 rfl rfl (op_divp (by decide) (by decide))) (b_i (q_f2 (b_p rfl (b_p rfl op_ixL))) fun x21 => op_mod))) fun _ => rfl) fun x23 =>
  (t_next rfl))))))) fun x25 =>
  (t_end (t_retF (rf_ok (e := (eL D.int)) rfl))))))))))
end Kx
namespace Kx
open PySem PySem.Spec L2 Da
def F_is_number : FS := (fRet (fBv (fAnd (fB (f1 (dIsi "int") (fV 0))) (fB (fBv (fNot (fB (f1 (dIsi "bool") (fV 0)))))))))
def m_is_number : List D → Res D := runF 1 .sh F_is_number
def F_frozen (rec : List D → Res D) : FS := (fSeq (fIfS (fTr (f1 (dIsi2 "list" "tuple") (fV 0))) (fRet (fOn (on1 dTuple) (fA (fLc [1] (fL (fV 0)) (gN 1) fYes (fOn (chk 1 rec) (fA (fV 1) fA0))) fA0))) fNext)
    (fRet (fV 0)))
def r_frozen : Nat → List D → Res D
  | 0 => fun _ => .er
  | n + 1 => runF 2 .sh (F_frozen (r_frozen n))
def m_frozen : List D → Res D := r_frozen 6
def N_frozen_i (a0 : Int) : Res Int :=
  (Res.ok a0)
theorem nr_frozen_i (n : Nat) (a0 : Int) : Rf (r_frozen (n + 1) [D.int a0]) (N_frozen_i a0) D.int :=
  n_runF ((t_ifF (evTr (ev1 rfl (isi2_b isTy_list_int isTy_tuple_int)) rfl) (t_nextS (t_end (t_retF (rf_ok (e := D.int) rfl))))))
def N_frozen_piiq (a0 : (Int × Int)) : Res (Int × Int) :=
  (((nx (N_frozen_i a0.1)).bind fun x1 => (nx (N_frozen_i a0.2)).bind fun x2 => Res.ok (x1, x2)).bind fun x3 => (Res.ok x3))
theorem nr_frozen_piiq (n : Nat) (a0 : (Int × Int)) : Rf (r_frozen (n + 2) [(eP2 D.int D.int) a0]) (N_frozen_piiq a0) (eP2 D.int D.int) :=
  n_runF ((t_ifT (evTr (ev1 rfl (isi2_b isTy_list_tup isTy_tuple_tup)) rfl) (t_retF (q_on (a_i (rf_lcN2 (it_row2 rfl) rfl rfl (q_on (a_p rfl (a_0 (rf_chk (nr_frozen_i (n + 0) a0.1) rfl)))) (q_on (a_p rfl (a_0 (rf_chk (nr_frozen_i (n + 0) a0.2) rfl))))) fun x3 => (a_0 (rf_ok rfl)))))))
def N_frozen_lpiiq (a0 : (List (Int × Int))) : Res (List (Int × Int)) :=
  ((lcR a0 (fun x1 => Res.ok true) (fun x1 => (N_frozen_piiq x1))).bind fun x2 => (Res.ok x2))
theorem nr_frozen_lpiiq (n : Nat) (a0 : (List (Int × Int))) : Rf (r_frozen (n + 3) [(eL (eP2 D.int D.int)) a0]) (N_frozen_lpiiq a0) (eT (eP2 D.int D.int)) :=
  n_runF ((t_ifT (evTr (ev1 rfl (isi2_a isTy_list_lst)) rfl) (t_retF (q_on (a_i (rf_lcp (it_L (e := (eP2 D.int D.int)) (xs := a0) rfl) (fun x1 : (Int × Int) => [some ((eL (eP2 D.int D.int)) a0), some ((eP2 D.int D.int) x1)]) (fun _ => rfl) (fun x1 => (rf_ok (v := true) rfl)) (fun x1 => (q_on (a_p rfl (a_0 (rf_chk (nr_frozen_piiq (n + 0) x1) rfl)))))) fun x2 => (a_0 (rf_ok rfl)))))))
theorem n_frozen_lpiiq (a0 : (List (Int × Int))) : Rf (m_frozen [(eL (eP2 D.int D.int)) a0]) (N_frozen_lpiiq a0) (eT (eP2 D.int D.int)) := nr_frozen_lpiiq 3 a0
end Kx
namespace Kx
open PySem PySem.Spec L2 Da
def F_law_near : FS := (fSeq (fSet 2 (fLc [4] (fR1 (fA (fV 0) fA0)) (gN 4) fYes (fOn gLstD fA0)))
    (fSeq (fFor (fL (fV 1)) (gN 3) (fFgt [3] (fSeq (fApp2 2 (f2 dIx (fV 3) (fC (.int 0))) (f2 dIx (fV 3) (fC (.int 1))))
    (fApp2 2 (f2 dIx (fV 3) (fC (.int 1))) (f2 dIx (fV 3) (fC (.int 0)))))))
    (fRet (fLc [5] (fL (fV 2)) (gN 5) fYes (fOn (on1 dSorted) (fA (fV 5) fA0))))))
def m_law_near : List D → Res D := runF 6 .ow F_law_near
def F_law_lanes : FS := (fSeq (fSet 1 (fOn gLstD fA0))
    (fSeq (fFor (fR1 (fA (fOn (on1 dLen) (fA (fV 0) fA0)) fA0)) (gN 2) (fFgt [2, 3] (fFor (fL (f2 dIx (fV 0) (fV 2))) (gN 3) (fFgt [3] (fApp 1 (fOn gTupD (fA (fV 2) (fA (fV 3) fA0))))))))
    (fRet (fV 1))))
def m_law_lanes : List D → Res D := runF 4 .ow F_law_lanes
def F_law_heights : FS := (fSeq (fSet 3 (fLc [6] (fR1 (fA (fOn (on1 dLen) (fA (fV 0) fA0)) fA0)) (gN 6) fYes (fC .non)))
    (fSeq (fSetIx 3 (fC (.int 0)) (fV 2))
    (fSeq (fFor (fR1 (fA (fOn (on1 dLen) (fA (fV 0) fA0)) fA0)) (gN 4) (fFgt [4, 5, 7] (fFor (fR1 (fA (fOn (on1 dLen) (fA (fV 0) fA0)) fA0)) (gN 5) (fFgt [5, 7] (fFor (fL (f2 dIx (fV 0) (fV 5))) (gN 7) (fFgt [7] (fFgt [] (fIfS (fAnd (fB (f1 (dNot1 dIsN) (f2 dIx (fV 3) (fV 7)))) (fOr (fB (f1 dIsN (f2 dIx (fV 3) (fV 5)))) (fB (f2 dGt (f2 dIx (fV 3) (fV 5)) (f2 dAdd (f2 dGetT (fV 1) (fOn gTupD (fA (fV 5) (fA (fV 7) fA0)))) (f2 dIx (fV 3) (fV 7))))))) (fSetIx 3 (f2 dAdd (f2 dGetT (fV 1) (fOn gTupD (fA (fV 5) (fA (fV 7) fA0)))) (f2 dIx (fV 3) (fV 7))) (fV 5)) fNext))))))))
    (fRet (fV 3)))))
def m_law_heights : List D → Res D := runF 8 .ow F_law_heights
def F_route_lanes : FS := (fRet (fOn (on1 dTuple) (fA (fLc [1] (fR1 (fA (f2 dSub (fOn (on1 dLen) (fA (fV 0) fA0)) (fC (.int 1))) fA0)) (gN 1) fYes (fOn gTupD (fA (f2 dIx (fV 0) (fV 1)) (fA (f2 dIx (fV 0) (f2 dAdd (fV 1) (fC (.int 1)))) fA0)))) fA0)))
def m_route_lanes : List D → Res D := runF 2 .sh F_route_lanes
def F_is_route : FS := (fSeq (fSet 4 (fOn (chk 1 m_frozen) (fA (fV 1) fA0)))
    (fSeq (fIfS (fOr (fNot (fTr (fV 4))) (fNot (fTr (fOn (on1 dAll) (fA (fLc [7] (fL (fV 4)) (gN 7) fYes (fBv (fAnd (fB (fOn (chk 1 m_is_number) (fA (fV 7) fA0))) (fB (fChain dLe dLt (fC (.int 0)) (fV 7) (f1 (dFld "Net" "size") (fV 0))))))) fA0))))) (fRet (fC (.bl false))) fNext)
    (fSeq (fIfS (fOr (fB (f2 dNe (f2 dIx (fV 4) (fC (.int 0))) (fV 2))) (fOr (fB (f2 dNe (f2 dIx (fV 4) (f1 dNeg (fC (.int 1)))) (fV 3))) (fB (f2 dNe (f1 dLenSet (fV 4)) (fOn (on1 dLen) (fA (fV 4) fA0)))))) (fRet (fC (.bl false))) fNext)
    (fRet (fOn (on1 dAll) (fA (fLc [5, 6] (fL (fOn (chk 1 m_route_lanes) (fA (fV 4) fA0))) (gT (gsC (gN 5) (gsC (gN 6) gs0))) fYes (f2 dIn (fV 6) (f2 dIx (f1 (dFld "Net" "near") (fV 0)) (fV 5)))) fA0))))))
def m_is_route : List D → Res D := runF 8 .sh F_is_route
def F_checked_routes : FS := (fSeq (fSet 1 (fOn (chk 1 m_frozen) (fA (fV 1) fA0)))
    (fSeq (fFor (fR1 (fA (f1 (dFld "Net" "size") (fV 0)) fA0)) (gN 2) (fFgt [2, 3] (fFor (fR1 (fA (f1 (dFld "Net" "size") (fV 0)) fA0)) (gN 3) (fFgt [3] (fIfS (fNot (fTr (fOn (chk 4 m_is_route) (fA (fV 0) (fA (f2 dIx (f2 dIx (fV 1) (fV 2)) (fV 3)) (fA (fV 2) (fA (fV 3) fA0))))))) (fRaise "BadRoute" ["sender", "goal"] (fA (fV 2) (fA (fV 3) fA0))) fNext)))))
    (fRet (fV 1))))
def m_checked_routes : List D → Res D := runF 4 .sh F_checked_routes
def F_Book_init : FS := (fSeq (fFld "Book" "net" 0 (fV 1))
    (fFld "Book" "rows" 0 (fOn (chk 2 m_checked_routes) (fA (fV 1) (fA (fV 2) fA0)))))
def m_Book_init : List D → Res D := runI 3 "Book" F_Book_init
def F_is_link : FS := (fSeq (fIfS (fOr (fB (f2 dNe (fOn (on1 dLen) (fA (fV 1) fA0)) (fC (.int 2)))) (fB (f2 dEq (f2 dIx (fV 1) (fC (.int 0))) (f2 dIx (fV 1) (fC (.int 1)))))) (fRet (fC (.bl false))) fNext)
    (fRet (fOn (on1 dAll) (fA (fLc [2] (fL (fV 1)) (gN 2) fYes (fBv (fAnd (fB (fOn (chk 1 m_is_number) (fA (fV 2) fA0))) (fB (fChain dLe dLt (fC (.int 0)) (fV 2) (fV 0)))))) fA0))))
def m_is_link : List D → Res D := runF 3 .sh F_is_link
def F_checked_links : FS := (fSeq (fFor (fEnum (fA (fV 1) fA0)) (gT (gsC (gN 2) (gsC (gN 3) gs0))) (fFgt [2, 3] (fIfS (fNot (fTr (fOn (chk 2 m_is_link) (fA (fV 0) (fA (fV 3) fA0))))) (fRaise "BadLink" ["index"] (fA (fV 2) fA0)) fNext)))
    (fRet (fOn (on1 dTuple) (fA (fSortSc [4, 5] (fL (fV 1)) (gT (gsC (gN 4) (gsC (gN 5) gs0))) fYes (fOn gTupD (fA (fOn (on2 dMin2) (fA (fV 4) (fA (fV 5) fA0))) (fA (fOn (on2 dMax2) (fA (fV 4) (fA (fV 5) fA0))) fA0)))) fA0))))
def m_checked_links : List D → Res D := runF 6 .sh F_checked_links
def F_near_nodes : FS := (fSeq (fSet 2 (fLc [5] (fR1 (fA (fV 0) fA0)) (gN 5) fYes (fOn gLstD fA0)))
    (fSeq (fFor (fL (fV 1)) (gT (gsC (gN 3) (gsC (gN 4) gs0))) (fFgt [3, 4] (fSeq (fApp2 2 (fV 3) (fV 4))
    (fApp2 2 (fV 4) (fV 3)))))
    (fRet (fOn (on1 dTuple) (fA (fLc [6] (fL (fV 2)) (gN 6) fYes (fOn (on1 dTuple) (fA (fOn (on1 dSorted) (fA (fV 6) fA0)) fA0))) fA0)))))
def m_near_nodes : List D → Res D := runF 7 .sh F_near_nodes
def F_lanes_of : FS := (fRet (fOn (on1 dTuple) (fA (fLc2 [1, 2] (fR1 (fA (fOn (on1 dLen) (fA (fV 0) fA0)) fA0)) (gN 1) fYes [2] (fL (f2 dIx (fV 0) (fV 1))) (gN 2) fYes (fOn gTupD (fA (fV 1) (fA (fV 2) fA0)))) fA0)))
def m_lanes_of : List D → Res D := runF 3 .sh F_lanes_of
def F_reached : FS := (fSeq (fSet 3 (fLc [5] (fR1 (fA (fV 0) fA0)) (gN 5) fYes (fC (.bl false))))
    (fSeq (fSetIx 3 (fC (.bl true)) (fV 2))
    (fSeq (fSet 4 (fOn gLstD (fA (fV 2) fA0)))
    (fSeq (fWhile (fNx (fTr (fV 4))) (fFgt [5, 6, 7] (fSeq (fSetX 5 (fPop0 4))
    (fFor (fL (fV 1)) (gT (gsC (gN 6) (gsC (gN 7) gs0))) (fFgt [6, 7] (fSeq (fFgt [] (fIfS (fAnd (fB (f2 dEq (fV 6) (fV 5))) (fNot (fTr (f2 dIx (fV 3) (fV 7))))) (fSeq (fSetIx 3 (fC (.bl true)) (fV 7))
    (fApp 4 (fV 7))) fNext))
    (fFgt [] (fIfS (fAnd (fB (f2 dEq (fV 7) (fV 5))) (fNot (fTr (f2 dIx (fV 3) (fV 6))))) (fSeq (fSetIx 3 (fC (.bl true)) (fV 6))
    (fApp 4 (fV 6))) fNext))))))))
    (fRet (fOn (on1 dTuple) (fA (fLc [5] (fR1 (fA (fV 0) fA0)) (gN 5) (fTr (f2 dIx (fV 3) (fV 5))) (fV 5)) fA0)))))))
def m_reached : List D → Res D := runF 8 .sh F_reached
def F_Net_init : FS := (fSeq (fIfS (fNot (fB (fChain dLe dLe (fC (.int 1)) (fV 1) (fC (.int 24))))) (fRaise "BadSize" ["size"] (fA (fV 1) fA0)) fNext)
    (fSeq (fFld "Net" "size" 0 (fV 1))
    (fSeq (fFld "Net" "links" 0 (fOn (chk 2 m_checked_links) (fA (fV 1) (fA (fOn (chk 1 m_frozen) (fA (fV 2) fA0)) fA0))))
    (fSeq (fFld "Net" "near" 0 (fOn (chk 2 m_near_nodes) (fA (fV 1) (fA (f1 (dFld "Net" "links") (fV 0)) fA0))))
    (fSeq (fFld "Net" "lane_row" 0 (fOn (chk 1 m_lanes_of) (fA (f1 (dFld "Net" "near") (fV 0)) fA0)))
    (fSeq (fSet 3 (fOn (chk 3 m_reached) (fA (fV 1) (fA (f1 (dFld "Net" "links") (fV 0)) (fA (fC (.int 0)) fA0)))))
    (fFor (fR1 (fA (fV 1) fA0)) (gN 4) (fFgt [4] (fIfS (fB (f2 dNotIn (fV 4) (fV 3))) (fRaise "NotConnected" ["node"] (fA (fV 4) fA0)) fNext)))))))))
def m_Net_init : List D → Res D := runI 5 "Net" F_Net_init
def N_law_near_i_lpiiq (a0 : Int) (a1 : (List (Int × Int))) : Res (List (List Int)) :=
  (((rngR a0).bind fun x2 => lcR x2 (fun x1 => Res.ok true) (fun x1 => (Res.ok []))).bind fun x3 =>
  ((forR (σ := (List (List Int))) (fun x4 x5 => ((app2R x4 x5.1 x5.2).bind fun x6 =>
  ((app2R x6 x5.2 x5.1).bind fun x7 =>
  Res.ok x7))) a1 x3).bind fun x8 =>
  (lcR x8 (fun x9 => Res.ok true) (fun x9 => (Res.ok (x9.mergeSort leI))))))
theorem n_law_near_i_lpiiq (a0 : Int) (a1 : (List (Int × Int))) : Rf (m_law_near [D.int a0, (eL (eP2 D.int D.int)) a1]) (N_law_near_i_lpiiq a0 a1) (eL (eL D.int)) :=
  n_runF ((t_seq fin_F (fun x3 : (List (List Int)) => [some (D.int a0), some ((eL (eP2 D.int D.int)) a1), some ((eL (eL D.int)) x3), none, none, none]) (s_set (e := (eL (eL D.int))) _ (rf_lc (q_R1 (a_p rfl (a_0 k_R1))) (fun x1 : Int => [some (D.int a0), some ((eL (eP2 D.int D.int)) a1), none, none, some (D.int x1), none]) (fun _ => rfl) (fun x1 => (rf_ok (v := true) rfl)) (fun x1 => (rf_ok (e := (eL D.int)) rfl))) fun _ => rfl) fun x3 =>
  (t_seq fin_F (fun x8 : (List (List Int)) => [some (D.int a0), some ((eL (eP2 D.int D.int)) a1), some ((eL (eL D.int)) x8), none, none, none]) (s_forp (ex := (eP2 D.int D.int)) (s0 := x3) (it_L (e := (eP2 D.int D.int)) (xs := a1) rfl) (fun x4 : (List (List Int)) => [some (D.int a0), some ((eL (eP2 D.int D.int)) a1), some ((eL (eL D.int)) x4), none, none, none]) (fun (x4 : (List (List Int))) (x5 : (Int × Int)) => [some (D.int a0), some ((eL (eP2 D.int D.int)) a1), some ((eL (eL D.int)) x4), some ((eP2 D.int D.int) x5), none, none]) rfl (fun _ _ => rfl) fun x4 x5 =>
  (t_assoc (t_seq fin_L (fun x6 : (List (List Int)) => [some (D.int a0), some ((eL (eP2 D.int D.int)) a1), some ((eL (eL D.int)) x6), some ((eP2 D.int D.int) x5), none, none]) (s_app2 (e := D.int) (xs := x4) (d := x5.2) (fun ys : (List (List Int)) => [some (D.int a0), some ((eL (eP2 D.int D.int)) a1), some ((eL (eL D.int)) ys), some ((eP2 D.int D.int) x5), none, none]) rfl rfl rfl fun _ => rfl) fun x6 =>
  (t_seq fin_L (fun x7 : (List (List Int)) => [some (D.int a0), some ((eL (eP2 D.int D.int)) a1), some ((eL (eL D.int)) x7), some ((eP2 D.int D.int) x5), none, none]) (s_app2 (e := D.int) (xs := x6) (d := x5.1) (fun ys : (List (List Int)) => [some (D.int a0), some ((eL (eP2 D.int D.int)) a1), some ((eL (eL D.int)) ys), some ((eP2 D.int D.int) x5), none, none]) rfl rfl rfl fun _ => rfl) fun x7 =>
  (t_next rfl))))) fun x8 =>
  (t_end (t_retF (rf_lcp (it_L (e := (eL D.int)) (xs := x8) rfl) (fun x9 : (List Int) => [some (D.int a0), some ((eL (eP2 D.int D.int)) a1), some ((eL (eL D.int)) x8), none, none, some ((eL D.int) x9)]) (fun _ => rfl) (fun x9 => (rf_ok (v := true) rfl)) (fun x9 => (rf_ok (e := (eL D.int)) (evOn (evA rfl rfl) op_sortL)))))))))
def N_law_lanes_lli (a0 : (List (List Int))) : Res (List (Int × Int)) :=
  (((rngR (a0.length : Int)).bind fun x8 => (forR (σ := (List (Int × Int))) (fun x1 x2 => (((ixR a0 x2).bind fun x6 => (forR (σ := (List (Int × Int))) (fun x3 x4 => ((appR x3 (x2, x4)).bind fun x5 =>
  Res.ok x5)) x6 x1)).bind fun x7 =>
  Res.ok x7)) x8 [])).bind fun x9 =>
  (Res.ok x9))
theorem n_law_lanes_lli (a0 : (List (List Int))) : Rf (m_law_lanes [(eL (eL D.int)) a0]) (N_law_lanes_lli a0) (eL (eP2 D.int D.int)) :=
  n_runF ((t_seqp [some ((eL (eL D.int)) a0), some ((eL (eP2 D.int D.int)) []), none, none] (set_p rfl rfl) (t_seq fin_F (fun x9 : (List (Int × Int)) => [some ((eL (eL D.int)) a0), some ((eL (eP2 D.int D.int)) x9), none, none]) (s_for (ex := D.int) (s0 := []) (q_R1 (a_p (evOn (evA rfl rfl) op_lenL) (a_0 k_R1))) (fun x1 : (List (Int × Int)) => [some ((eL (eL D.int)) a0), some ((eL (eP2 D.int D.int)) x1), none, none]) (fun (x1 : (List (Int × Int))) (x2 : Int) => [some ((eL (eL D.int)) a0), some ((eL (eP2 D.int D.int)) x1), some (D.int x2), none]) rfl (fun _ _ => rfl) fun x1 x2 =>
  (t_seq fin_L (fun x7 : (List (Int × Int)) => [some ((eL (eL D.int)) a0), some ((eL (eP2 D.int D.int)) x7), some (D.int x2), none]) (s_for (ex := D.int) (s0 := x1) (q_L (b_iL (q_f2 (b_p rfl (b_p rfl op_ixL))) fun _ => rfl)) (fun x3 : (List (Int × Int)) => [some ((eL (eL D.int)) a0), some ((eL (eP2 D.int D.int)) x3), some (D.int x2), none]) (fun (x3 : (List (Int × Int))) (x4 : Int) => [some ((eL (eL D.int)) a0), some ((eL (eP2 D.int D.int)) x3), some (D.int x2), some (D.int x4)]) rfl (fun _ _ => rfl) fun x3 x4 =>
  (t_seq fin_L (fun x5 : (List (Int × Int)) => [some ((eL (eL D.int)) a0), some ((eL (eP2 D.int D.int)) x5), some (D.int x2), some (D.int x4)]) (s_app (e := (eP2 D.int D.int)) (xs := x3) (d := (x2, x4)) (fun ys : (List (Int × Int)) => [some ((eL (eL D.int)) a0), some ((eL (eP2 D.int D.int)) ys), some (D.int x2), some (D.int x4)]) rfl rfl fun _ => rfl) fun x5 =>
  (t_next rfl))) fun x7 =>
  (t_next rfl))) fun x9 =>
  (t_end (t_retF (rf_ok (e := (eL (eP2 D.int D.int))) rfl))))))
def N_law_heights_lli_mpiiqiq_i (a0 : (List (List Int))) (a1 : (List ((Int × Int) × Int))) (a2 : Int) : Res (List (Option Int)) :=
  (((rngR (a0.length : Int)).bind fun x2 => lcR x2 (fun x1 => Res.ok true) (fun x1 => (Res.ok none))).bind fun x3 =>
  ((setR x3 a2 (some 0)).bind fun x4 =>
  (((rngR (a0.length : Int)).bind fun x58 => (forR (σ := (List (Option Int))) (fun x5 x6 => (((rngR (a0.length : Int)).bind fun x56 => (forR (σ := (List (Option Int))) (fun x7 x8 => (((ixR a0 x8).bind fun x54 => (forR (σ := (List (Option Int))) (fun x9 x10 => (((((ixR x9 x10).bind fun x39 => (Res.ok (!(Option.isNone x39)))).bind fun x46 => (if x46 = true then (((ixR x9 x8).bind fun x40 => (Res.ok (Option.isNone x40))).bind fun x45 => (if x45 = true then Res.ok true else (((ixR x9 x8).bind unO).bind fun x43 => (((dgetN a1 (x8, x10)).bind fun x41 => (((ixR x9 x10).bind unO).bind fun x42 => (Res.ok (x41 + x42)))).bind fun x44 => (Res.ok (decide (x44 < x43))))))) else Res.ok false)).bind fun x52 => if x52 = true then (((((dgetN a1 (x8, x10)).bind fun x47 => (((ixR x9 x10).bind unO).bind fun x48 => (Res.ok (x47 + x48)))).bind fun x49 => Res.ok (some x49)).bind fun x50 => (setR x9 x8 x50)).bind fun x51 =>
  Res.ok x51) else
  Res.ok x9).bind fun x53 =>
  Res.ok x53)) x54 x7)).bind fun x55 =>
  Res.ok x55)) x56 x5)).bind fun x57 =>
  Res.ok x57)) x58 x4)).bind fun x59 =>
  (Res.ok x59))))
theorem n_law_heights_lli_mpiiqiq_i (a0 : (List (List Int))) (a1 : (List ((Int × Int) × Int))) (a2 : Int) : Rf (m_law_heights [(eL (eL D.int)) a0, (eDt (kP2 kI kI) D.int) a1, D.int a2]) (N_law_heights_lli_mpiiqiq_i a0 a1 a2) (eL (eO D.int)) :=
  n_runF ((t_seq fin_F (fun x3 : (List (Option Int)) => [some ((eL (eL D.int)) a0), some ((eDt (kP2 kI kI) D.int) a1), some (D.int a2), some ((eL (eO D.int)) x3), none, none, none, none]) (s_set (e := (eL (eO D.int))) _ (rf_lc (q_R1 (a_p (evOn (evA rfl rfl) op_lenL) (a_0 k_R1))) (fun x1 : Int => [some ((eL (eL D.int)) a0), some ((eDt (kP2 kI kI) D.int) a1), some (D.int a2), none, none, none, some (D.int x1), none]) (fun _ => rfl) (fun x1 => (rf_ok (v := true) rfl)) (fun x1 => (rf_ok (e := (eO D.int)) rfl))) fun _ => rfl) fun x3 =>
  (t_seq fin_F (fun x4 : (List (Option Int)) => [some ((eL (eL D.int)) a0), some ((eDt (kP2 kI kI) D.int) a1), some (D.int a2), some ((eL (eO D.int)) x4), none, none, none, none]) (s_setIx (e := (eO D.int)) (xs := x3) (d := (some 0)) (fun ys : (List (Option Int)) => [some ((eL (eL D.int)) a0), some ((eDt (kP2 kI kI) D.int) a1), some (D.int a2), some ((eL (eO D.int)) ys), none, none, none, none]) rfl rfl rfl fun _ => rfl) fun x4 =>
  (t_seq fin_F (fun x59 : (List (Option Int)) => [some ((eL (eL D.int)) a0), some ((eDt (kP2 kI kI) D.int) a1), some (D.int a2), some ((eL (eO D.int)) x59), none, none, none, none]) (s_for (ex := D.int) (s0 := x4) (q_R1 (a_p (evOn (evA rfl rfl) op_lenL) (a_0 k_R1))) (fun x5 : (List (Option Int)) => [some ((eL (eL D.int)) a0), some ((eDt (kP2 kI kI) D.int) a1), some (D.int a2), some ((eL (eO D.int)) x5), none, none, none, none]) (fun (x5 : (List (Option Int))) (x6 : Int) => [some ((eL (eL D.int)) a0), some ((eDt (kP2 kI kI) D.int) a1), some (D.int a2), some ((eL (eO D.int)) x5), some (D.int x6), none, none, none]) rfl (fun _ _ => rfl) fun x5 x6 =>
  (t_seq fin_L (fun x57 : (List (Option Int)) => [some ((eL (eL D.int)) a0), some ((eDt (kP2 kI kI) D.int) a1), some (D.int a2), some ((eL (eO D.int)) x57), some (D.int x6), none, none, none]) (s_for (ex := D.int) (s0 := x5) (q_R1 (a_p (evOn (evA rfl rfl) op_lenL) (a_0 k_R1))) (fun x7 : (List (Option Int)) => [some ((eL (eL D.int)) a0), some ((eDt (kP2 kI kI) D.int) a1), some (D.int a2), some ((eL (eO D.int)) x7), some (D.int x6), none, none, none]) (fun (x7 : (List (Option Int))) (x8 : Int) => [some ((eL (eL D.int)) a0), some ((eDt (kP2 kI kI) D.int) a1), some (D.int a2), some ((eL (eO D.int)) x7), some (D.int x6), some (D.int x8), none, none]) rfl (fun _ _ => rfl) fun x7 x8 =>
  (t_seq fin_L (fun x55 : (List (Option Int)) => [some ((eL (eL D.int)) a0), some ((eDt (kP2 kI kI) D.int) a1), some (D.int a2), some ((eL (eO D.int)) x55), some (D.int x6), some (D.int x8), none, none]) (s_for (ex := D.int) (s0 := x7) (q_L (b_iL (q_f2 (b_p rfl (b_p rfl op_ixL))) fun _ => rfl)) (fun x9 : (List (Option Int)) => [some ((eL (eL D.int)) a0), some ((eDt (kP2 kI kI) D.int) a1), some (D.int a2), some ((eL (eO D.int)) x9), some (D.int x6), some (D.int x8), none, none]) (fun (x9 : (List (Option Int))) (x10 : Int) => [some ((eL (eL D.int)) a0), some ((eDt (kP2 kI kI) D.int) a1), some (D.int a2), some ((eL (eO D.int)) x9), some (D.int x6), some (D.int x8), none, some (D.int x10)]) rfl (fun _ _ => rfl) fun x9 x10 =>
  (t_seq fin_L (fun x53 : (List (Option Int)) => [some ((eL (eL D.int)) a0), some ((eDt (kP2 kI kI) D.int) a1), some (D.int a2), some ((eL (eO D.int)) x53), some (D.int x6), some (D.int x8), none, some (D.int x10)]) (s_if (o' := (fun s : (List (Option Int)) => Fl.nx [some ((eL (eL D.int)) a0), some ((eDt (kP2 kI kI) D.int) a1), some (D.int a2), some ((eL (eO D.int)) s), some (D.int x6), some (D.int x8), none, some (D.int x10)])) (t_ifI fin_S (rAndI (q_B (b_iB (q_f1 (b_i (q_f2 (b_p rfl (b_p rfl op_ixL))) fun x39 => (rf_ok (op_not1 (op_isN fun _ => rfl))))))) (rOrI (q_B (b_iB (q_f1 (b_i (q_f2 (b_p rfl (b_p rfl op_ixL))) fun x40 => (rf_ok (op_isN fun _ => rfl)))))) (q_B (b_iB (q_f2 (b_i (rf_unOI (q_f2 (b_p rfl (b_p rfl op_ixL)))) fun x43 => (b_i (q_f2 (b_i (q_f2 (b_p rfl (b_p rfl (op_dgetT (kd_P2 kd_I kd_I) (inj_kP2 inj_kI inj_kI))))) fun x41 => (b_i (rf_unOI (q_f2 (b_p rfl (b_p rfl op_ixL)))) fun x42 => (rf_ok rfl)))) fun x44 => (rf_ok rfl)))))))) (t_seq fin_S (fun x51 : (List (Option Int)) => [some ((eL (eL D.int)) a0), some ((eDt (kP2 kI kI) D.int) a1), some (D.int a2), some ((eL (eO D.int)) x51), some (D.int x6), some (D.int x8), none, some (D.int x10)]) (s_setIxI (e := (eO D.int)) (xs := x9) (fun ys : (List (Option Int)) => [some ((eL (eL D.int)) a0), some ((eDt (kP2 kI kI) D.int) a1), some (D.int a2), some ((eL (eO D.int)) ys), some (D.int x6), some (D.int x8), none, some (D.int x10)]) rfl (rf_co (e' := (eO D.int)) (fun x49 : Int => (some x49)) (q_f2 (b_i (q_f2 (b_p rfl (b_p rfl (op_dgetT (kd_P2 kd_I kd_I) (inj_kP2 inj_kI inj_kI))))) fun x47 => (b_i (rf_unOI (q_f2 (b_p rfl (b_p rfl op_ixL)))) fun x48 => (rf_ok rfl)))) fun _ => rfl) rfl fun _ => rfl) fun x51 =>
  (t_next rfl))
  (t_nextS (t_next rfl)))) fun x53 =>
  (t_next rfl))) fun x55 =>
  (t_next rfl))) fun x57 =>
  (t_next rfl))) fun x59 =>
  (t_end (t_retF (rf_ok (e := (eL (eO D.int))) rfl)))))))
def N_is_number_i (a0 : Int) : Res Bool :=
  (Res.ok true)
theorem n_is_number_i (a0 : Int) : Rf (m_is_number [D.int a0]) (N_is_number_i a0) D.bl :=
  n_runF ((t_end (t_retF (rf_ok (e := D.bl) (evBv (evAndT (evB (ev1 rfl (isi_of isTy_int_int))) (evB (evBv (evNot (evB (ev1 rfl (isi_of isTy_bool_int))))))))))))
def N_is_link_i_piiq (a0 : Int) (a1 : (Int × Int)) : Res Bool :=
  (if ((!decide (2 = 2)) || (decide (a1.1 = a1.2))) = true then (Res.ok false) else
  ((lcR [a1.1, a1.2] (fun x1 => Res.ok true) (fun x1 => (Res.ok ((decide (0 ≤ x1)) && (decide (x1 < a0)))))).bind fun x2 => (Res.ok (x2.all id))))
theorem n_is_link_i_piiq (a0 : Int) (a1 : (Int × Int)) : Rf (m_is_link [D.int a0, (eP2 D.int D.int) a1]) (N_is_link_i_piiq a0 a1) D.bl :=
  n_runF ((t_if (evOr (evB (ev2 rfl rfl (op_ne (e := D.int) (x := 2) (x' := 2)))) (evB (ev2 rfl rfl (op_eq (e := D.int) (x := a1.1) (x' := a1.2))))) (t_retF (rf_ok (e := D.bl) rfl))
  (t_nextS (t_end (t_retF (q_on (a_i (rf_lcp (it_T (e := D.int) (xs := [a1.1, a1.2]) rfl) (fun x1 : Int => [some (D.int a0), some ((eP2 D.int D.int) a1), some (D.int x1)]) (fun _ => rfl) (fun x1 => (rf_ok (v := true) rfl)) (fun x1 => (rf_ok (e := D.bl) (evBv (evAndT (evB (evOn (evA rfl rfl) (ev_chk (n_is_number_i x1) rfl))) (evB (evChain rfl rfl rfl rfl rfl))))))) fun x2 => (a_0 (rf_ok op_allL)))))))))
def N_checked_links_i_tpiiq (a0 : Int) (a1 : (List (Int × Int))) : Res (List (Int × Int)) :=
  ((forR (σ := Unit) (fun x1 x2 => (((N_is_link_i_piiq a0 x2.2).bind fun x3 => Res.ok (!x3)).bind fun x4 => if x4 = true then (Res.ex "BadLink" [("index", D.int x2.1)]) else
  Res.ok ())) (enumI 0 a1) ()).bind fun x5 =>
  (((lcR a1 (fun x6 => Res.ok true) (fun x6 => (Res.ok ((if x6.2 < x6.1 then x6.2 else x6.1), (if x6.2 > x6.1 then x6.2 else x6.1))))).bind sortPR).bind fun x7 => (Res.ok x7)))
theorem n_checked_links_i_tpiiq (a0 : Int) (a1 : (List (Int × Int))) : Rf (m_checked_links [D.int a0, (eT (eP2 D.int D.int)) a1]) (N_checked_links_i_tpiiq a0 a1) (eT (eP2 D.int D.int)) :=
  n_runF ((t_seq fin_F (fun x5 : Unit => [some (D.int a0), some ((eT (eP2 D.int D.int)) a1), none, none, none, none]) (s_forp (ex := (eP2 D.int (eP2 D.int D.int))) (s0 := ()) (it_enT (e := (eP2 D.int D.int)) (xs := a1) rfl) (fun x1 : Unit => [some (D.int a0), some ((eT (eP2 D.int D.int)) a1), none, none, none, none]) (fun (x1 : Unit) (x2 : (Int × (Int × Int))) => [some (D.int a0), some ((eT (eP2 D.int D.int)) a1), some (D.int x2.1), some ((eP2 D.int D.int) x2.2), none, none]) rfl (fun _ _ => rfl) fun x1 x2 =>
  (t_ifI fin_L (q_Not (b_i (q_Tr (b_iT (q_on (a_p rfl (a_p rfl (a_0 (rf_chk (n_is_link_i_piiq a0 x2.2) rfl))))))) fun _ => rf_ok rfl)) (t_raise fin_L (a_p rfl (a_0 (rf_ex rfl))))
  (t_nextS (t_next rfl)))) fun x5 =>
  (t_end (t_retF (q_on (a_i (rf_sortSc (rf_lcp (it_T (e := (eP2 D.int D.int)) (xs := a1) rfl) (fun x6 : (Int × Int) => [some (D.int a0), some ((eT (eP2 D.int D.int)) a1), none, none, some (D.int x6.1), some (D.int x6.2)]) (fun _ => rfl) (fun x6 => (rf_ok (v := true) rfl)) (fun x6 => (rf_ok (e := (eP2 D.int D.int)) rfl)))) fun x7 => (a_0 (rf_ok rfl))))))))
def N_near_nodes_i_tpiiq (a0 : Int) (a1 : (List (Int × Int))) : Res (List (List Int)) :=
  (((rngR a0).bind fun x2 => lcR x2 (fun x1 => Res.ok true) (fun x1 => (Res.ok []))).bind fun x3 =>
  ((forR (σ := (List (List Int))) (fun x4 x5 => ((app2R x4 x5.1 x5.2).bind fun x6 =>
  ((app2R x6 x5.2 x5.1).bind fun x7 =>
  Res.ok x7))) a1 x3).bind fun x8 =>
  ((lcR x8 (fun x9 => Res.ok true) (fun x9 => (Res.ok (x9.mergeSort leI)))).bind fun x10 => (Res.ok x10))))
theorem n_near_nodes_i_tpiiq (a0 : Int) (a1 : (List (Int × Int))) : Rf (m_near_nodes [D.int a0, (eT (eP2 D.int D.int)) a1]) (N_near_nodes_i_tpiiq a0 a1) (eT (eT D.int)) :=
  n_runF ((t_seq fin_F (fun x3 : (List (List Int)) => [some (D.int a0), some ((eT (eP2 D.int D.int)) a1), some ((eL (eL D.int)) x3), none, none, none, none]) (s_set (e := (eL (eL D.int))) _ (rf_lc (q_R1 (a_p rfl (a_0 k_R1))) (fun x1 : Int => [some (D.int a0), some ((eT (eP2 D.int D.int)) a1), none, none, none, some (D.int x1), none]) (fun _ => rfl) (fun x1 => (rf_ok (v := true) rfl)) (fun x1 => (rf_ok (e := (eL D.int)) rfl))) fun _ => rfl) fun x3 =>
  (t_seq fin_F (fun x8 : (List (List Int)) => [some (D.int a0), some ((eT (eP2 D.int D.int)) a1), some ((eL (eL D.int)) x8), none, none, none, none]) (s_forp (ex := (eP2 D.int D.int)) (s0 := x3) (it_T (e := (eP2 D.int D.int)) (xs := a1) rfl) (fun x4 : (List (List Int)) => [some (D.int a0), some ((eT (eP2 D.int D.int)) a1), some ((eL (eL D.int)) x4), none, none, none, none]) (fun (x4 : (List (List Int))) (x5 : (Int × Int)) => [some (D.int a0), some ((eT (eP2 D.int D.int)) a1), some ((eL (eL D.int)) x4), some (D.int x5.1), some (D.int x5.2), none, none]) rfl (fun _ _ => rfl) fun x4 x5 =>
  (t_assoc (t_seq fin_L (fun x6 : (List (List Int)) => [some (D.int a0), some ((eT (eP2 D.int D.int)) a1), some ((eL (eL D.int)) x6), some (D.int x5.1), some (D.int x5.2), none, none]) (s_app2 (e := D.int) (xs := x4) (d := x5.2) (fun ys : (List (List Int)) => [some (D.int a0), some ((eT (eP2 D.int D.int)) a1), some ((eL (eL D.int)) ys), some (D.int x5.1), some (D.int x5.2), none, none]) rfl rfl rfl fun _ => rfl) fun x6 =>
  (t_seq fin_L (fun x7 : (List (List Int)) => [some (D.int a0), some ((eT (eP2 D.int D.int)) a1), some ((eL (eL D.int)) x7), some (D.int x5.1), some (D.int x5.2), none, none]) (s_app2 (e := D.int) (xs := x6) (d := x5.1) (fun ys : (List (List Int)) => [some (D.int a0), some ((eT (eP2 D.int D.int)) a1), some ((eL (eL D.int)) ys), some (D.int x5.1), some (D.int x5.2), none, none]) rfl rfl rfl fun _ => rfl) fun x7 =>
  (t_next rfl))))) fun x8 =>
  (t_end (t_retF (q_on (a_i (rf_lcp (it_L (e := (eL D.int)) (xs := x8) rfl) (fun x9 : (List Int) => [some (D.int a0), some ((eT (eP2 D.int D.int)) a1), some ((eL (eL D.int)) x8), none, none, none, some ((eL D.int) x9)]) (fun _ => rfl) (fun x9 => (rf_ok (v := true) rfl)) (fun x9 => (rf_ok (e := (eT D.int)) (evOn (evA (evOn (evA rfl rfl) op_sortL) rfl) rfl)))) fun x10 => (a_0 (rf_ok rfl)))))))))
def N_lanes_of_tti (a0 : (List (List Int))) : Res (List (Int × Int)) :=
  (((rngR (a0.length : Int)).bind fun x3 => lc2R x3 (fun x1 => Res.ok true) (fun x1 => (ixR a0 x1)) (fun x1 x2 => Res.ok true) (fun x1 x2 => (Res.ok (x1, x2)))).bind fun x4 => (Res.ok x4))
theorem n_lanes_of_tti (a0 : (List (List Int))) : Rf (m_lanes_of [(eT (eT D.int)) a0]) (N_lanes_of_tti a0) (eT (eP2 D.int D.int)) :=
  n_runF ((t_end (t_retF (q_on (a_i (rf_lc2 (q_R1 (a_p (evOn (evA rfl rfl) op_lenT) (a_0 k_R1))) (fun x1 : Int => [some ((eT (eT D.int)) a0), some (D.int x1), none]) (fun (x1 : Int) (x2 : Int) => [some ((eT (eT D.int)) a0), some (D.int x1), some (D.int x2)]) (fun _ => rfl) (fun x1 => (rf_ok (v := true) rfl)) (fun x1 => (q_L (b_iL (q_f2 (b_p rfl (b_p rfl op_ixT))) fun _ => rfl))) (fun _ _ => rfl) (fun x1 x2 => (rf_ok (v := true) rfl)) (fun x1 x2 => (rf_ok (e := (eP2 D.int D.int)) rfl))) fun x4 => (a_0 (rf_ok rfl)))))))
def N_reached_i_tpiiq_i (a0 : Int) (a1 : (List (Int × Int))) (a2 : Int) : Res (List Int) :=
  (((rngR a0).bind fun x2 => lcR x2 (fun x1 => Res.ok true) (fun x1 => (Res.ok false))).bind fun x3 =>
  ((setR x3 a2 true).bind fun x4 =>
  (((whileC (σ := ((List Bool) × (List Int))) (β := Unit) (fun x5 => Res.ok (!x5.2.isEmpty)) (fun x5 => ((nx (pop0R x5.2)).bind fun x7 =>
  ((forR (σ := ((List Bool) × (List Int))) (fun x8 x9 => (((if (decide (x9.1 = x7.1)) = true then ((ixR x8.1 x9.2).bind fun x18 => Res.ok (!x18)) else Res.ok false).bind fun x21 => if x21 = true then ((setR x8.1 x9.2 true).bind fun x19 =>
  ((appR x8.2 x9.2).bind fun x20 =>
  Res.ok (x19, x20))) else
  Res.ok (x8.1, x8.2)).bind fun x22 =>
  (((if (decide (x9.2 = x7.1)) = true then ((ixR x22.1 x9.1).bind fun x31 => Res.ok (!x31)) else Res.ok false).bind fun x34 => if x34 = true then ((setR x22.1 x9.1 true).bind fun x32 =>
  ((appR x22.2 x9.1).bind fun x33 =>
  Res.ok (x32, x33))) else
  Res.ok (x22.1, x22.2)).bind fun x35 =>
  Res.ok (x35.1, x35.2)))) a1 (x5.1, x7.2)).bind fun x36 =>
  Res.ok (.go (x36.1, x36.2))))) FUEL (x4, [a2])).bind (ctlS (β := Unit))).bind fun x37 =>
  (((rngR a0).bind fun x39 => lcR x39 (fun x38 => (ixR x37.1 x38)) (fun x38 => (Res.ok x38))).bind fun x40 => (Res.ok x40)))))
theorem n_reached_i_tpiiq_i (a0 : Int) (a1 : (List (Int × Int))) (a2 : Int) : Rf (m_reached [D.int a0, (eT (eP2 D.int D.int)) a1, D.int a2]) (N_reached_i_tpiiq_i a0 a1 a2) (eT D.int) :=
  n_runF ((t_seq fin_F (fun x3 : (List Bool) => [some (D.int a0), some ((eT (eP2 D.int D.int)) a1), some (D.int a2), some ((eL D.bl) x3), none, none, none, none]) (s_set (e := (eL D.bl)) _ (rf_lc (q_R1 (a_p rfl (a_0 k_R1))) (fun x1 : Int => [some (D.int a0), some ((eT (eP2 D.int D.int)) a1), some (D.int a2), none, none, some (D.int x1), none, none]) (fun _ => rfl) (fun x1 => (rf_ok (v := true) rfl)) (fun x1 => (rf_ok (e := D.bl) rfl))) fun _ => rfl) fun x3 =>
  (t_seq fin_F (fun x4 : (List Bool) => [some (D.int a0), some ((eT (eP2 D.int D.int)) a1), some (D.int a2), some ((eL D.bl) x4), none, none, none, none]) (s_setIx (e := D.bl) (xs := x3) (d := true) (fun ys : (List Bool) => [some (D.int a0), some ((eT (eP2 D.int D.int)) a1), some (D.int a2), some ((eL D.bl) ys), none, none, none, none]) rfl rfl rfl fun _ => rfl) fun x4 =>
  (t_seqp [some (D.int a0), some ((eT (eP2 D.int D.int)) a1), some (D.int a2), some ((eL D.bl) x4), some ((eL D.int) [a2]), none, none, none] (set_p rfl rfl) (t_seq fin_F (fun x37 : ((List Bool) × (List Int)) => [some (D.int a0), some ((eT (eP2 D.int D.int)) a1), some (D.int a2), some ((eL D.bl) x37.1), some ((eL D.int) x37.2), none, none, none]) (s_while (s0 := (x4, [a2])) (fun x5 : ((List Bool) × (List Int)) => [some (D.int a0), some ((eT (eP2 D.int D.int)) a1), some (D.int a2), some ((eL D.bl) x5.1), some ((eL D.int) x5.2), none, none, none]) rfl (fun x5 => (rf_ok (e := fun b => b) (evNx (evTr rfl op_trL)))) fun x5 =>
  (t_assoc (t_seq fin_L (fun x7 : (Int × (List Int)) => [some (D.int a0), some ((eT (eP2 D.int D.int)) a1), some (D.int a2), some ((eL D.bl) x5.1), some ((eL D.int) x7.2), some (D.int x7.1), none, none]) (s_setX (fun v : (Int × (List Int)) => [some (D.int a0), some ((eT (eP2 D.int D.int)) a1), some (D.int a2), some ((eL D.bl) x5.1), some ((eL D.int) v.2), some (D.int v.1), none, none]) (x_pop0 (e := D.int) (xs := x5.2) (fun ys : (List Int) => [some (D.int a0), some ((eT (eP2 D.int D.int)) a1), some (D.int a2), some ((eL D.bl) x5.1), some ((eL D.int) ys), none, none, none]) rfl fun _ => rfl) fun _ => rfl) fun x7 =>
  (t_seq fin_L (fun x36 : ((List Bool) × (List Int)) => [some (D.int a0), some ((eT (eP2 D.int D.int)) a1), some (D.int a2), some ((eL D.bl) x36.1), some ((eL D.int) x36.2), some (D.int x7.1), none, none]) (s_forp (ex := (eP2 D.int D.int)) (s0 := (x5.1, x7.2)) (it_T (e := (eP2 D.int D.int)) (xs := a1) rfl) (fun x8 : ((List Bool) × (List Int)) => [some (D.int a0), some ((eT (eP2 D.int D.int)) a1), some (D.int a2), some ((eL D.bl) x8.1), some ((eL D.int) x8.2), some (D.int x7.1), none, none]) (fun (x8 : ((List Bool) × (List Int))) (x9 : (Int × Int)) => [some (D.int a0), some ((eT (eP2 D.int D.int)) a1), some (D.int a2), some ((eL D.bl) x8.1), some ((eL D.int) x8.2), some (D.int x7.1), some (D.int x9.1), some (D.int x9.2)]) rfl (fun _ _ => rfl) fun x8 x9 =>
  (t_assoc (t_seq fin_L (fun x22 : ((List Bool) × (List Int)) => [some (D.int a0), some ((eT (eP2 D.int D.int)) a1), some (D.int a2), some ((eL D.bl) x22.1), some ((eL D.int) x22.2), some (D.int x7.1), some (D.int x9.1), some (D.int x9.2)]) (s_if (o' := (fun s : ((List Bool) × (List Int)) => Fl.nx [some (D.int a0), some ((eT (eP2 D.int D.int)) a1), some (D.int a2), some ((eL D.bl) s.1), some ((eL D.int) s.2), some (D.int x7.1), some (D.int x9.1), some (D.int x9.2)])) (t_ifI fin_S (rAnd (evB (ev2 rfl rfl (op_eq (e := D.int) (x := x9.1) (x' := x7.1)))) (q_Not (b_i (q_Tr (b_iT (q_f2 (b_p rfl (b_p rfl op_ixL))))) fun _ => rf_ok rfl))) (t_assoc (t_seq fin_S (fun x19 : (List Bool) => [some (D.int a0), some ((eT (eP2 D.int D.int)) a1), some (D.int a2), some ((eL D.bl) x19), some ((eL D.int) x8.2), some (D.int x7.1), some (D.int x9.1), some (D.int x9.2)]) (s_setIx (e := D.bl) (xs := x8.1) (d := true) (fun ys : (List Bool) => [some (D.int a0), some ((eT (eP2 D.int D.int)) a1), some (D.int a2), some ((eL D.bl) ys), some ((eL D.int) x8.2), some (D.int x7.1), some (D.int x9.1), some (D.int x9.2)]) rfl rfl rfl fun _ => rfl) fun x19 =>
  (t_seq fin_S (fun x20 : (List Int) => [some (D.int a0), some ((eT (eP2 D.int D.int)) a1), some (D.int a2), some ((eL D.bl) x19), some ((eL D.int) x20), some (D.int x7.1), some (D.int x9.1), some (D.int x9.2)]) (s_app (e := D.int) (xs := x8.2) (d := x9.2) (fun ys : (List Int) => [some (D.int a0), some ((eT (eP2 D.int D.int)) a1), some (D.int a2), some ((eL D.bl) x19), some ((eL D.int) ys), some (D.int x7.1), some (D.int x9.1), some (D.int x9.2)]) rfl rfl fun _ => rfl) fun x20 =>
  (t_next rfl))))
  (t_nextS (t_next rfl)))) fun x22 =>
  (t_seq fin_L (fun x35 : ((List Bool) × (List Int)) => [some (D.int a0), some ((eT (eP2 D.int D.int)) a1), some (D.int a2), some ((eL D.bl) x35.1), some ((eL D.int) x35.2), some (D.int x7.1), some (D.int x9.1), some (D.int x9.2)]) (s_if (o' := (fun s : ((List Bool) × (List Int)) => Fl.nx [some (D.int a0), some ((eT (eP2 D.int D.int)) a1), some (D.int a2), some ((eL D.bl) s.1), some ((eL D.int) s.2), some (D.int x7.1), some (D.int x9.1), some (D.int x9.2)])) (t_ifI fin_S (rAnd (evB (ev2 rfl rfl (op_eq (e := D.int) (x := x9.2) (x' := x7.1)))) (q_Not (b_i (q_Tr (b_iT (q_f2 (b_p rfl (b_p rfl op_ixL))))) fun _ => rf_ok rfl))) (t_assoc (t_seq fin_S (fun x32 : (List Bool) => [some (D.int a0), some ((eT (eP2 D.int D.int)) a1), some (D.int a2), some ((eL D.bl) x32), some ((eL D.int) x22.2), some (D.int x7.1), some (D.int x9.1), some (D.int x9.2)]) (s_setIx (e := D.bl) (xs := x22.1) (d := true) (fun ys : (List Bool) => [some (D.int a0), some ((eT (eP2 D.int D.int)) a1), some (D.int a2), some ((eL D.bl) ys), some ((eL D.int) x22.2), some (D.int x7.1), some (D.int x9.1), some (D.int x9.2)]) rfl rfl rfl fun _ => rfl) fun x32 =>
  (t_seq fin_S (fun x33 : (List Int) => [some (D.int a0), some ((eT (eP2 D.int D.int)) a1), some (D.int a2), some ((eL D.bl) x32), some ((eL D.int) x33), some (D.int x7.1), some (D.int x9.1), some (D.int x9.2)]) (s_app (e := D.int) (xs := x22.2) (d := x9.1) (fun ys : (List Int) => [some (D.int a0), some ((eT (eP2 D.int D.int)) a1), some (D.int a2), some ((eL D.bl) x32), some ((eL D.int) ys), some (D.int x7.1), some (D.int x9.1), some (D.int x9.2)]) rfl rfl fun _ => rfl) fun x33 =>
  (t_next rfl))))
  (t_nextS (t_next rfl)))) fun x35 =>
  (t_next rfl))))) fun x36 =>
  (t_next rfl))))) fun x37 =>
  (t_end (t_retF (q_on (a_i (rf_lc (q_R1 (a_p rfl (a_0 k_R1))) (fun x38 : Int => [some (D.int a0), some ((eT (eP2 D.int D.int)) a1), some (D.int a2), some ((eL D.bl) x37.1), some ((eL D.int) x37.2), some (D.int x38), none, none]) (fun _ => rfl) (fun x38 => (q_Tr (b_iT (q_f2 (b_p rfl (b_p rfl op_ixL)))))) (fun x38 => (rf_ok (e := D.int) rfl))) fun x40 => (a_0 (rf_ok rfl)))))))))))
def N_Net_init_i_lpiiq (a0 : Int) (a1 : (List (Int × Int))) : Res (Int × (List (Int × Int)) × (List (List Int)) × (List (Int × Int))) :=
  (if (!((decide (1 ≤ a0)) && (decide (a0 ≤ 24)))) = true then (Res.ex "BadSize" [("size", D.int a0)]) else
  ((Res.ok a0).bind fun x1 =>
  (((N_frozen_lpiiq a1).bind fun x2 => (N_checked_links_i_tpiiq a0 x2)).bind fun x3 =>
  ((N_near_nodes_i_tpiiq a0 ((x1, x3).2)).bind fun x4 =>
  ((N_lanes_of_tti (((x1, x3).1, (x1, x3).2, x4).2.2)).bind fun x5 =>
  ((N_reached_i_tpiiq_i a0 ((((x1, x3).1, (x1, x3).2, x4).1, ((x1, x3).1, (x1, x3).2, x4).2.1, ((x1, x3).1, (x1, x3).2, x4).2.2, x5).2.1) 0).bind fun x6 =>
  (((rngR a0).bind fun x9 => (forR (σ := Unit) (fun x7 x8 => (if (!decide (x8 ∈ x6)) = true then (Res.ex "NotConnected" [("node", D.int x8)]) else
  Res.ok ())) x9 ())).bind fun x10 =>
  Res.ok (((x1, x3).1, (x1, x3).2, x4).1, ((x1, x3).1, (x1, x3).2, x4).2.1, ((x1, x3).1, (x1, x3).2, x4).2.2, x5))))))))
theorem n_Net_init_i_lpiiq (a0 : Int) (a1 : (List (Int × Int))) : Rf (m_Net_init [D.int a0, (eL (eP2 D.int D.int)) a1]) (N_Net_init_i_lpiiq a0 a1) (eOb4 "Net" "size" "links" "near" "lane_row" D.int (eT (eP2 D.int D.int)) (eT (eT D.int)) (eT (eP2 D.int D.int))) :=
  n_runI ((t_if (evNot (evB (evChain rfl rfl rfl rfl rfl))) (t_raise fin_I (a_p rfl (a_0 (rf_ex rfl))))
  (t_nextS (t_seq fin_I (fun x1 : Int => [some ((eOb1 "Net" "size" D.int) x1), some (D.int a0), some ((eL (eP2 D.int D.int)) a1), none, none]) (s_fld (e := D.int) (ns := []) (ds := []) (fun v : Int => [some ((eOb1 "Net" "size" D.int) v), some (D.int a0), some ((eL (eP2 D.int D.int)) a1), none, none]) rfl (by decide) (rf_ok (e := D.int) rfl) fun _ => rfl) fun x1 =>
  (t_seq fin_I (fun x3 : (List (Int × Int)) => [some ((eOb2 "Net" "size" "links" D.int (eT (eP2 D.int D.int))) (x1, x3)), some (D.int a0), some ((eL (eP2 D.int D.int)) a1), none, none]) (s_fld (e := (eT (eP2 D.int D.int))) (ns := ["size"]) (ds := [D.int x1]) (fun v : (List (Int × Int)) => [some ((eOb2 "Net" "size" "links" D.int (eT (eP2 D.int D.int))) (x1, v)), some (D.int a0), some ((eL (eP2 D.int D.int)) a1), none, none]) rfl (by decide) (q_on (a_p rfl (a_i (q_on (a_p rfl (a_0 (rf_chk (n_frozen_lpiiq a1) rfl)))) fun x2 => (a_0 (rf_chk (n_checked_links_i_tpiiq a0 x2) rfl))))) fun _ => rfl) fun x3 =>
  (t_seq fin_I (fun x4 : (List (List Int)) => [some ((eOb3 "Net" "size" "links" "near" D.int (eT (eP2 D.int D.int)) (eT (eT D.int))) ((x1, x3).1, (x1, x3).2, x4)), some (D.int a0), some ((eL (eP2 D.int D.int)) a1), none, none]) (s_fld (e := (eT (eT D.int))) (ns := ["size", "links"]) (ds := [D.int ((x1, x3).1), (eT (eP2 D.int D.int)) ((x1, x3).2)]) (fun v : (List (List Int)) => [some ((eOb3 "Net" "size" "links" "near" D.int (eT (eP2 D.int D.int)) (eT (eT D.int))) ((x1, x3).1, (x1, x3).2, v)), some (D.int a0), some ((eL (eP2 D.int D.int)) a1), none, none]) rfl (by decide) (q_on (a_p rfl (a_p (ev1 rfl (fld_skip (by decide) fld_hit)) (a_0 (rf_chk (n_near_nodes_i_tpiiq a0 ((x1, x3).2)) rfl))))) fun _ => rfl) fun x4 =>
  (t_seq fin_I (fun x5 : (List (Int × Int)) => [some ((eOb4 "Net" "size" "links" "near" "lane_row" D.int (eT (eP2 D.int D.int)) (eT (eT D.int)) (eT (eP2 D.int D.int))) (((x1, x3).1, (x1, x3).2, x4).1, ((x1, x3).1, (x1, x3).2, x4).2.1, ((x1, x3).1, (x1, x3).2, x4).2.2, x5)), some (D.int a0), some ((eL (eP2 D.int D.int)) a1), none, none]) (s_fld (e := (eT (eP2 D.int D.int))) (ns := ["size", "links", "near"]) (ds := [D.int (((x1, x3).1, (x1, x3).2, x4).1), (eT (eP2 D.int D.int)) (((x1, x3).1, (x1, x3).2, x4).2.1), (eT (eT D.int)) (((x1, x3).1, (x1, x3).2, x4).2.2)]) (fun v : (List (Int × Int)) => [some ((eOb4 "Net" "size" "links" "near" "lane_row" D.int (eT (eP2 D.int D.int)) (eT (eT D.int)) (eT (eP2 D.int D.int))) (((x1, x3).1, (x1, x3).2, x4).1, ((x1, x3).1, (x1, x3).2, x4).2.1, ((x1, x3).1, (x1, x3).2, x4).2.2, v)), some (D.int a0), some ((eL (eP2 D.int D.int)) a1), none, none]) rfl (by decide) (q_on (a_p (ev1 rfl (fld_skip (by decide) (fld_skip (by decide) fld_hit))) (a_0 (rf_chk (n_lanes_of_tti (((x1, x3).1, (x1, x3).2, x4).2.2)) rfl)))) fun _ => rfl) fun x5 =>
  (t_seq fin_I (fun x6 : (List Int) => [some ((eOb4 "Net" "size" "links" "near" "lane_row" D.int (eT (eP2 D.int D.int)) (eT (eT D.int)) (eT (eP2 D.int D.int))) (((x1, x3).1, (x1, x3).2, x4).1, ((x1, x3).1, (x1, x3).2, x4).2.1, ((x1, x3).1, (x1, x3).2, x4).2.2, x5)), some (D.int a0), some ((eL (eP2 D.int D.int)) a1), some ((eT D.int) x6), none]) (s_set (e := (eT D.int)) _ (q_on (a_p rfl (a_p (ev1 rfl (fld_skip (by decide) fld_hit)) (a_p rfl (a_0 (rf_chk (n_reached_i_tpiiq_i a0 ((((x1, x3).1, (x1, x3).2, x4).1, ((x1, x3).1, (x1, x3).2, x4).2.1, ((x1, x3).1, (x1, x3).2, x4).2.2, x5).2.1) 0) rfl)))))) fun _ => rfl) fun x6 =>
  (t_end (t_seq fin_I (fun x10 : Unit => [some ((eOb4 "Net" "size" "links" "near" "lane_row" D.int (eT (eP2 D.int D.int)) (eT (eT D.int)) (eT (eP2 D.int D.int))) (((x1, x3).1, (x1, x3).2, x4).1, ((x1, x3).1, (x1, x3).2, x4).2.1, ((x1, x3).1, (x1, x3).2, x4).2.2, x5)), some (D.int a0), some ((eL (eP2 D.int D.int)) a1), some ((eT D.int) x6), none]) (s_for (ex := D.int) (s0 := ()) (q_R1 (a_p rfl (a_0 k_R1))) (fun x7 : Unit => [some ((eOb4 "Net" "size" "links" "near" "lane_row" D.int (eT (eP2 D.int D.int)) (eT (eT D.int)) (eT (eP2 D.int D.int))) (((x1, x3).1, (x1, x3).2, x4).1, ((x1, x3).1, (x1, x3).2, x4).2.1, ((x1, x3).1, (x1, x3).2, x4).2.2, x5)), some (D.int a0), some ((eL (eP2 D.int D.int)) a1), some ((eT D.int) x6), none]) (fun (x7 : Unit) (x8 : Int) => [some ((eOb4 "Net" "size" "links" "near" "lane_row" D.int (eT (eP2 D.int D.int)) (eT (eT D.int)) (eT (eP2 D.int D.int))) (((x1, x3).1, (x1, x3).2, x4).1, ((x1, x3).1, (x1, x3).2, x4).2.1, ((x1, x3).1, (x1, x3).2, x4).2.2, x5)), some (D.int a0), some ((eL (eP2 D.int D.int)) a1), some ((eT D.int) x6), some (D.int x8)]) rfl (fun _ _ => rfl) fun x7 x8 =>
  (t_if (evB (ev2 rfl rfl (op_nmemT (e := D.int) (x := x8) (xs := x6)))) (t_raise fin_L (a_p rfl (a_0 (rf_ex rfl))))
  (t_nextS (t_next rfl)))) fun x10 =>
  (t_next (o := (eOb4 "Net" "size" "links" "near" "lane_row" D.int (eT (eP2 D.int D.int)) (eT (eT D.int)) (eT (eP2 D.int D.int)))) (v := (((x1, x3).1, (x1, x3).2, x4).1, ((x1, x3).1, (x1, x3).2, x4).2.1, ((x1, x3).1, (x1, x3).2, x4).2.2, x5)) rfl)))))))))))
def N_frozen_ti (a0 : (List Int)) : Res (List Int) :=
  ((lcR a0 (fun x1 => Res.ok true) (fun x1 => (N_frozen_i x1))).bind fun x2 => (Res.ok x2))
theorem nr_frozen_ti (n : Nat) (a0 : (List Int)) : Rf (r_frozen (n + 2) [(eT D.int) a0]) (N_frozen_ti a0) (eT D.int) :=
  n_runF ((t_ifT (evTr (ev1 rfl (isi2_b isTy_list_tup isTy_tuple_tup)) rfl) (t_retF (q_on (a_i (rf_lcp (it_T (e := D.int) (xs := a0) rfl) (fun x1 : Int => [some ((eT D.int) a0), some (D.int x1)]) (fun _ => rfl) (fun x1 => (rf_ok (v := true) rfl)) (fun x1 => (q_on (a_p rfl (a_0 (rf_chk (nr_frozen_i (n + 0) x1) rfl)))))) fun x2 => (a_0 (rf_ok rfl)))))))
theorem n_frozen_ti (a0 : (List Int)) : Rf (m_frozen [(eT D.int) a0]) (N_frozen_ti a0) (eT D.int) := nr_frozen_ti 4 a0
def N_frozen_lti (a0 : (List (List Int))) : Res (List (List Int)) :=
  ((lcR a0 (fun x1 => Res.ok true) (fun x1 => (N_frozen_ti x1))).bind fun x2 => (Res.ok x2))
theorem nr_frozen_lti (n : Nat) (a0 : (List (List Int))) : Rf (r_frozen (n + 3) [(eL (eT D.int)) a0]) (N_frozen_lti a0) (eT (eT D.int)) :=
  n_runF ((t_ifT (evTr (ev1 rfl (isi2_a isTy_list_lst)) rfl) (t_retF (q_on (a_i (rf_lcp (it_L (e := (eT D.int)) (xs := a0) rfl) (fun x1 : (List Int) => [some ((eL (eT D.int)) a0), some ((eT D.int) x1)]) (fun _ => rfl) (fun x1 => (rf_ok (v := true) rfl)) (fun x1 => (q_on (a_p rfl (a_0 (rf_chk (nr_frozen_ti (n + 0) x1) rfl)))))) fun x2 => (a_0 (rf_ok rfl)))))))
def N_frozen_llti (a0 : (List (List (List Int)))) : Res (List (List (List Int))) :=
  ((lcR a0 (fun x1 => Res.ok true) (fun x1 => (N_frozen_lti x1))).bind fun x2 => (Res.ok x2))
theorem nr_frozen_llti (n : Nat) (a0 : (List (List (List Int)))) : Rf (r_frozen (n + 4) [(eL (eL (eT D.int))) a0]) (N_frozen_llti a0) (eT (eT (eT D.int))) :=
  n_runF ((t_ifT (evTr (ev1 rfl (isi2_a isTy_list_lst)) rfl) (t_retF (q_on (a_i (rf_lcp (it_L (e := (eL (eT D.int))) (xs := a0) rfl) (fun x1 : (List (List Int)) => [some ((eL (eL (eT D.int))) a0), some ((eL (eT D.int)) x1)]) (fun _ => rfl) (fun x1 => (rf_ok (v := true) rfl)) (fun x1 => (q_on (a_p rfl (a_0 (rf_chk (nr_frozen_lti (n + 0) x1) rfl)))))) fun x2 => (a_0 (rf_ok rfl)))))))
theorem n_frozen_llti (a0 : (List (List (List Int)))) : Rf (m_frozen [(eL (eL (eT D.int))) a0]) (N_frozen_llti a0) (eT (eT (eT D.int))) := nr_frozen_llti 2 a0
def N_route_lanes_ti (a0 : (List Int)) : Res (List (Int × Int)) :=
  (((rngR ((a0.length : Int) - 1)).bind fun x4 => lcR x4 (fun x1 => Res.ok true) (fun x1 => ((ixR a0 x1).bind fun x2 => ((ixR a0 (x1 + 1)).bind fun x3 => (Res.ok (x2, x3)))))).bind fun x5 => (Res.ok x5))
theorem n_route_lanes_ti (a0 : (List Int)) : Rf (m_route_lanes [(eT D.int) a0]) (N_route_lanes_ti a0) (eT (eP2 D.int D.int)) :=
  n_runF ((t_end (t_retF (q_on (a_i (rf_lc (q_R1 (a_p (ev2 (evOn (evA rfl rfl) op_lenT) rfl rfl) (a_0 k_R1))) (fun x1 : Int => [some ((eT D.int) a0), some (D.int x1)]) (fun _ => rfl) (fun x1 => (rf_ok (v := true) rfl)) (fun x1 => (q_on (a_i (q_f2 (b_p rfl (b_p rfl op_ixT))) fun x2 => (a_i (q_f2 (b_p rfl (b_p rfl op_ixT))) fun x3 => (a_0 (rf_ok rfl))))))) fun x5 => (a_0 (rf_ok rfl)))))))
def N_is_route_cNetitpiiqttitpiiqq_ti_i_i (a0 : (Int × (List (Int × Int)) × (List (List Int)) × (List (Int × Int)))) (a1 : (List Int)) (a2 : Int) (a3 : Int) : Res Bool :=
  ((N_frozen_ti a1).bind fun x1 =>
  ((if (!(!x1.isEmpty)) = true then Res.ok true else (((lcR x1 (fun x2 => Res.ok true) (fun x2 => (Res.ok ((decide (0 ≤ x2)) && (decide (x2 < a0.1)))))).bind fun x3 => (Res.ok (x3.all id))).bind fun x4 => Res.ok (!x4))).bind fun x15 => if x15 = true then (Res.ok false) else
  ((((ixR x1 0).bind fun x5 => (Res.ok (!decide (x5 = a2)))).bind fun x9 => (if x9 = true then Res.ok true else (((ixR x1 (-1)).bind fun x6 => (Res.ok (!decide (x6 = a3)))).bind fun x8 => (if x8 = true then Res.ok true else ((lenSetR x1).bind fun x7 => (Res.ok (!decide (x7 = (x1.length : Int))))))))).bind fun x14 => if x14 = true then (Res.ok false) else
  (((N_route_lanes_ti x1).bind fun x12 => lcR x12 (fun x10 => Res.ok true) (fun x10 => ((ixR a0.2.2.1 x10.1).bind fun x11 => (Res.ok (decide (x10.2 ∈ x11)))))).bind fun x13 => (Res.ok (x13.all id))))))
theorem n_is_route_cNetitpiiqttitpiiqq_ti_i_i (a0 : (Int × (List (Int × Int)) × (List (List Int)) × (List (Int × Int)))) (a1 : (List Int)) (a2 : Int) (a3 : Int) : Rf (m_is_route [(eOb4 "Net" "size" "links" "near" "lane_row" D.int (eT (eP2 D.int D.int)) (eT (eT D.int)) (eT (eP2 D.int D.int))) a0, (eT D.int) a1, D.int a2, D.int a3]) (N_is_route_cNetitpiiqttitpiiqq_ti_i_i a0 a1 a2 a3) D.bl :=
  n_runF ((t_seq fin_F (fun x1 : (List Int) => [some ((eOb4 "Net" "size" "links" "near" "lane_row" D.int (eT (eP2 D.int D.int)) (eT (eT D.int)) (eT (eP2 D.int D.int))) a0), some ((eT D.int) a1), some (D.int a2), some (D.int a3), some ((eT D.int) x1), none, none, none]) (s_set (e := (eT D.int)) _ (q_on (a_p rfl (a_0 (rf_chk (n_frozen_ti a1) rfl)))) fun _ => rfl) fun x1 =>
  (t_ifI fin_F (rOr (evNot (evTr rfl op_trT)) (q_Not (b_i (q_Tr (b_iT (q_on (a_i (rf_lcp (it_T (e := D.int) (xs := x1) rfl) (fun x2 : Int => [some ((eOb4 "Net" "size" "links" "near" "lane_row" D.int (eT (eP2 D.int D.int)) (eT (eT D.int)) (eT (eP2 D.int D.int))) a0), some ((eT D.int) a1), some (D.int a2), some (D.int a3), some ((eT D.int) x1), none, none, some (D.int x2)]) (fun _ => rfl) (fun x2 => (rf_ok (v := true) rfl)) (fun x2 => (rf_ok (e := D.bl) (evBv (evAndT (evB (evOn (evA rfl rfl) (ev_chk (n_is_number_i x2) rfl))) (evB (evChain rfl rfl (ev1 rfl fld_hit) rfl rfl))))))) fun x3 => (a_0 (rf_ok op_allL)))))) fun _ => rf_ok rfl))) (t_retF (rf_ok (e := D.bl) rfl))
  (t_nextS (t_ifI fin_F (rOrI (q_B (b_iB (q_f2 (b_i (q_f2 (b_p rfl (b_p rfl op_ixT))) fun x5 => (b_p rfl (rf_ok (op_ne (e := D.int) (x := x5) (x' := a2)))))))) (rOrI (q_B (b_iB (q_f2 (b_i (q_f2 (b_p rfl (b_p rfl op_ixT))) fun x6 => (b_p rfl (rf_ok (op_ne (e := D.int) (x := x6) (x' := a3)))))))) (q_B (b_iB (q_f2 (b_i (q_f1 (b_p rfl op_lenSet)) fun x7 => (b_p (evOn (evA rfl rfl) op_lenT) (rf_ok (op_ne (e := D.int) (x := x7) (x' := (x1.length : Int))))))))))) (t_retF (rf_ok (e := D.bl) rfl))
  (t_nextS (t_end (t_retF (q_on (a_i (rf_lc (q_L (b_iL (q_on (a_p rfl (a_0 (rf_chk (n_route_lanes_ti x1) rfl)))) fun _ => rfl)) (fun x10 : (Int × Int) => [some ((eOb4 "Net" "size" "links" "near" "lane_row" D.int (eT (eP2 D.int D.int)) (eT (eT D.int)) (eT (eP2 D.int D.int))) a0), some ((eT D.int) a1), some (D.int a2), some (D.int a3), some ((eT D.int) x1), some (D.int x10.1), some (D.int x10.2), none]) (fun _ => rfl) (fun x10 => (rf_ok (v := true) rfl)) (fun x10 => (q_f2 (b_p rfl (b_i (q_f2 (b_p (ev1 rfl (fld_skip (by decide) (fld_skip (by decide) fld_hit))) (b_p rfl op_ixT))) fun x11 => (rf_ok (op_memT (e := D.int) (x := x10.2) (xs := x11)))))))) fun x13 => (a_0 (rf_ok op_allL))))))))))))
def N_checked_routes_cNetitpiiqttitpiiqq_llti (a0 : (Int × (List (Int × Int)) × (List (List Int)) × (List (Int × Int)))) (a1 : (List (List (List Int)))) : Res (List (List (List Int))) :=
  ((N_frozen_llti a1).bind fun x1 =>
  (((rngR a0.1).bind fun x12 => (forR (σ := Unit) (fun x2 x3 => (((rngR a0.1).bind fun x10 => (forR (σ := Unit) (fun x4 x5 => (((((ixR x1 x3).bind fun x6 => (ixR x6 x5)).bind fun x7 => (N_is_route_cNetitpiiqttitpiiqq_ti_i_i a0 x7 x3 x5)).bind fun x8 => Res.ok (!x8)).bind fun x9 => if x9 = true then (Res.ex "BadRoute" [("goal", D.int x5), ("sender", D.int x3)]) else
  Res.ok ())) x10 ())).bind fun x11 =>
  Res.ok ())) x12 ())).bind fun x13 =>
  (Res.ok x1)))
theorem n_checked_routes_cNetitpiiqttitpiiqq_llti (a0 : (Int × (List (Int × Int)) × (List (List Int)) × (List (Int × Int)))) (a1 : (List (List (List Int)))) : Rf (m_checked_routes [(eOb4 "Net" "size" "links" "near" "lane_row" D.int (eT (eP2 D.int D.int)) (eT (eT D.int)) (eT (eP2 D.int D.int))) a0, (eL (eL (eT D.int))) a1]) (N_checked_routes_cNetitpiiqttitpiiqq_llti a0 a1) (eT (eT (eT D.int))) :=
  n_runF ((t_seq fin_F (fun x1 : (List (List (List Int))) => [some ((eOb4 "Net" "size" "links" "near" "lane_row" D.int (eT (eP2 D.int D.int)) (eT (eT D.int)) (eT (eP2 D.int D.int))) a0), some ((eT (eT (eT D.int))) x1), none, none]) (s_set (e := (eT (eT (eT D.int)))) _ (q_on (a_p rfl (a_0 (rf_chk (n_frozen_llti a1) rfl)))) fun _ => rfl) fun x1 =>
  (t_seq fin_F (fun x13 : Unit => [some ((eOb4 "Net" "size" "links" "near" "lane_row" D.int (eT (eP2 D.int D.int)) (eT (eT D.int)) (eT (eP2 D.int D.int))) a0), some ((eT (eT (eT D.int))) x1), none, none]) (s_for (ex := D.int) (s0 := ()) (q_R1 (a_p (ev1 rfl fld_hit) (a_0 k_R1))) (fun x2 : Unit => [some ((eOb4 "Net" "size" "links" "near" "lane_row" D.int (eT (eP2 D.int D.int)) (eT (eT D.int)) (eT (eP2 D.int D.int))) a0), some ((eT (eT (eT D.int))) x1), none, none]) (fun (x2 : Unit) (x3 : Int) => [some ((eOb4 "Net" "size" "links" "near" "lane_row" D.int (eT (eP2 D.int D.int)) (eT (eT D.int)) (eT (eP2 D.int D.int))) a0), some ((eT (eT (eT D.int))) x1), some (D.int x3), none]) rfl (fun _ _ => rfl) fun x2 x3 =>
  (t_seq fin_L (fun x11 : Unit => [some ((eOb4 "Net" "size" "links" "near" "lane_row" D.int (eT (eP2 D.int D.int)) (eT (eT D.int)) (eT (eP2 D.int D.int))) a0), some ((eT (eT (eT D.int))) x1), some (D.int x3), none]) (s_for (ex := D.int) (s0 := ()) (q_R1 (a_p (ev1 rfl fld_hit) (a_0 k_R1))) (fun x4 : Unit => [some ((eOb4 "Net" "size" "links" "near" "lane_row" D.int (eT (eP2 D.int D.int)) (eT (eT D.int)) (eT (eP2 D.int D.int))) a0), some ((eT (eT (eT D.int))) x1), some (D.int x3), none]) (fun (x4 : Unit) (x5 : Int) => [some ((eOb4 "Net" "size" "links" "near" "lane_row" D.int (eT (eP2 D.int D.int)) (eT (eT D.int)) (eT (eP2 D.int D.int))) a0), some ((eT (eT (eT D.int))) x1), some (D.int x3), some (D.int x5)]) rfl (fun _ _ => rfl) fun x4 x5 =>
  (t_ifI fin_L (q_Not (b_i (q_Tr (b_iT (q_on (a_p rfl (a_i (q_f2 (b_i (q_f2 (b_p rfl (b_p rfl op_ixT))) fun x6 => (b_p rfl op_ixT))) fun x7 => (a_p rfl (a_p rfl (a_0 (rf_chk (n_is_route_cNetitpiiqttitpiiqq_ti_i_i a0 x7 x3 x5) rfl))))))))) fun _ => rf_ok rfl)) (t_raise fin_L (a_p rfl (a_p rfl (a_0 (rf_ex rfl)))))
  (t_nextS (t_next rfl)))) fun x11 =>
  (t_next rfl))) fun x13 =>
  (t_end (t_retF (rf_ok (e := (eT (eT (eT D.int)))) rfl))))))
def N_Book_init_cNetitpiiqttitpiiqq_llti (a0 : (Int × (List (Int × Int)) × (List (List Int)) × (List (Int × Int)))) (a1 : (List (List (List Int)))) : Res ((Int × (List (Int × Int)) × (List (List Int)) × (List (Int × Int))) × (List (List (List Int)))) :=
  ((Res.ok a0).bind fun x1 =>
  ((N_checked_routes_cNetitpiiqttitpiiqq_llti a0 a1).bind fun x2 =>
  Res.ok (x1, x2)))
theorem n_Book_init_cNetitpiiqttitpiiqq_llti (a0 : (Int × (List (Int × Int)) × (List (List Int)) × (List (Int × Int)))) (a1 : (List (List (List Int)))) : Rf (m_Book_init [(eOb4 "Net" "size" "links" "near" "lane_row" D.int (eT (eP2 D.int D.int)) (eT (eT D.int)) (eT (eP2 D.int D.int))) a0, (eL (eL (eT D.int))) a1]) (N_Book_init_cNetitpiiqttitpiiqq_llti a0 a1) (eOb2 "Book" "net" "rows" (eOb4 "Net" "size" "links" "near" "lane_row" D.int (eT (eP2 D.int D.int)) (eT (eT D.int)) (eT (eP2 D.int D.int))) (eT (eT (eT D.int)))) :=
  n_runI ((t_seq fin_I (fun x1 : (Int × (List (Int × Int)) × (List (List Int)) × (List (Int × Int))) => [some ((eOb1 "Book" "net" (eOb4 "Net" "size" "links" "near" "lane_row" D.int (eT (eP2 D.int D.int)) (eT (eT D.int)) (eT (eP2 D.int D.int)))) x1), some ((eOb4 "Net" "size" "links" "near" "lane_row" D.int (eT (eP2 D.int D.int)) (eT (eT D.int)) (eT (eP2 D.int D.int))) a0), some ((eL (eL (eT D.int))) a1)]) (s_fld (e := (eOb4 "Net" "size" "links" "near" "lane_row" D.int (eT (eP2 D.int D.int)) (eT (eT D.int)) (eT (eP2 D.int D.int)))) (ns := []) (ds := []) (fun v : (Int × (List (Int × Int)) × (List (List Int)) × (List (Int × Int))) => [some ((eOb1 "Book" "net" (eOb4 "Net" "size" "links" "near" "lane_row" D.int (eT (eP2 D.int D.int)) (eT (eT D.int)) (eT (eP2 D.int D.int)))) v), some ((eOb4 "Net" "size" "links" "near" "lane_row" D.int (eT (eP2 D.int D.int)) (eT (eT D.int)) (eT (eP2 D.int D.int))) a0), some ((eL (eL (eT D.int))) a1)]) rfl (by decide) (rf_ok (e := (eOb4 "Net" "size" "links" "near" "lane_row" D.int (eT (eP2 D.int D.int)) (eT (eT D.int)) (eT (eP2 D.int D.int)))) rfl) fun _ => rfl) fun x1 =>
  (t_end (t_seq fin_I (fun x2 : (List (List (List Int))) => [some ((eOb2 "Book" "net" "rows" (eOb4 "Net" "size" "links" "near" "lane_row" D.int (eT (eP2 D.int D.int)) (eT (eT D.int)) (eT (eP2 D.int D.int))) (eT (eT (eT D.int)))) (x1, x2)), some ((eOb4 "Net" "size" "links" "near" "lane_row" D.int (eT (eP2 D.int D.int)) (eT (eT D.int)) (eT (eP2 D.int D.int))) a0), some ((eL (eL (eT D.int))) a1)]) (s_fld (e := (eT (eT (eT D.int)))) (ns := ["net"]) (ds := [(eOb4 "Net" "size" "links" "near" "lane_row" D.int (eT (eP2 D.int D.int)) (eT (eT D.int)) (eT (eP2 D.int D.int))) x1]) (fun v : (List (List (List Int))) => [some ((eOb2 "Book" "net" "rows" (eOb4 "Net" "size" "links" "near" "lane_row" D.int (eT (eP2 D.int D.int)) (eT (eT D.int)) (eT (eP2 D.int D.int))) (eT (eT (eT D.int)))) (x1, v)), some ((eOb4 "Net" "size" "links" "near" "lane_row" D.int (eT (eP2 D.int D.int)) (eT (eT D.int)) (eT (eP2 D.int D.int))) a0), some ((eL (eL (eT D.int))) a1)]) rfl (by decide) (q_on (a_p rfl (a_p rfl (a_0 (rf_chk (n_checked_routes_cNetitpiiqttitpiiqq_llti a0 a1) rfl))))) fun _ => rfl) fun x2 =>
  (t_next (o := (eOb2 "Book" "net" "rows" (eOb4 "Net" "size" "links" "near" "lane_row" D.int (eT (eP2 D.int D.int)) (eT (eT D.int)) (eT (eP2 D.int D.int))) (eT (eT (eT D.int))))) (v := (x1, x2)) rfl)))))
end Kx
namespace Da
open PySem PySem.Spec L2
def dbl (xs : List Kp) : List (Kp × Kp) := xs.map fun z => (z, z)
def hpushR (xs : List Kp) (k : Kp) : Res (List Kp) := if szOk (xs.length + 1) = true then .ok ((hPush (dbl xs) (k, k)).map (·.1)) else .er
def hpopR (xs : List Kp) : Res (Kp × List Kp) := match hPop (dbl xs) with
  | some (k, ws) => .ok (k, ws.map (·.1))
  | none => .er
abbrev eK : Kp → D := eP2 D.int D.int
theorem keysK_map : ∀ xs : List Kp, keysK (xs.map eK) = some (mp eK (dbl xs))
  | [] => rfl
  | x :: xs => by
    rw [List.map_cons]
    unfold keysK
    rw [keysK_map xs]
    rfl
theorem mp_fst {g : Kp → D} (ys : List (Kp × Kp)) : (mp g ys).map (·.1) = (ys.map (·.1)).map g := by unfold mp; simp
section
variable {ρ : Env} {i : Nat} {f : Env → Res D} {xs : List Kp}
theorem k_hpush {k : Kp} (E : List Kp → Env) (hE : ∀ ys, ρ.set i (some (eL eK ys)) = E ys) : Rf (finS [] (match keyK (eK k), keysK (xs.map eK) with
    | some k', some zs => if szOk ((xs.map eK).length + 1) = true then .ok (.nx (ρ.set i (some (.lst ((hPush zs (eK k, k')).map (·.1)))))) else .er
    | _, _ => .er)) (hpushR xs k) (fun ys => .nx (E ys)) := by
  rw [keysK_map]
  show Rf (finS [] (if szOk ((xs.map eK).length + 1) = true then .ok (.nx (ρ.set i (some (.lst ((hPush (mp eK (dbl xs)) (eK k, k)).map (·.1)))))) else .er)) _ _
  unfold hpushR
  rw [List.length_map]
  by_cases hz : szOk (xs.length + 1) = true
  · rw [if_pos hz, if_pos hz]
    rw [hPush_mp eK (dbl xs) (k, k), mp_fst]
    show finS [] _ = Res.ok (Fl.nx (E _))
    rw [← hE]
    rfl
  · rw [if_neg hz, if_neg hz]
    exact trivial
theorem fHPush_at {ds : List D} (h : ρ[i]? = some (some (.lst ds))) : fHPush i f ρ = lift (f ρ) ρ fun d => match keyK d, keysK ds with
    | some k, some zs => if szOk (ds.length + 1) = true then .ok (.nx (ρ.set i (some (.lst ((hPush zs (d, k)).map (·.1)))))) else .er
    | _, _ => .er := by unfold fHPush; rw [h]; try rfl
theorem s_hpushI {r : Res Kp} (E : List Kp → Env) (h : ρ[i]? = some (some (eL eK xs))) (hf : Rf (f ρ) r eK) (hE : ∀ ys, ρ.set i (some (eL eK ys)) = E ys) : Rf (finS [] (fHPush i f ρ)) (r.bind fun d => hpushR xs d) (fun ys => .nx (E ys)) := by
  rw [fHPush_at h]
  exact s_liftI hf fun d => k_hpush E hE
theorem x_hpop (E : List Kp → Env) (h : ρ[i]? = some (some (eL eK xs))) (hE : ∀ ys, ρ.set i (some (eL eK ys)) = E ys) : RfX (fHPop i ρ) (hpopR xs) eK E := by
  unfold fHPop
  rw [h]
  show RfX (match keysK (xs.map eK) with
    | some zs => (match hPop zs with
      | some (d, ws) => .ok (d, ρ.set i (some (.lst (ws.map (·.1)))))
      | none => .er)
    | none => .er) _ _ _
  rw [keysK_map]
  dsimp only
  rw [hPop_mp eK (dbl xs)]
  unfold hpopR
  cases hPop (dbl xs) with
  | none => exact trivial
  | some w =>
    show Res.ok _ = Res.ok _
    rw [← hE]
    dsimp only
    rw [mp_fst]
    rfl
theorem s_asgX {α τ : Type} {e : α → D} {fx : Env → Res (D × Env)} {g : D → Env → Res Env} {r : Res (α × τ)} {E1 : τ → Env} (E : α × τ → Env) (hf : RfX (fx ρ) r e E1) (hE : ∀ v, g (e v.1) (E1 v.2) = .ok (E v)) : Rf (finS [] (fAsgX fx g ρ)) (nx r) (fun s => .nx (E s)) := by
  cases r with
  | ok v =>
    show finS [] (fAsgX fx g ρ) = _
    unfold fAsgX
    rw [show fx ρ = .ok (e v.1, E1 v.2) from hf]
    dsimp only
    rw [hE]
    rfl
  | _ => trivial
end
end Da
namespace Kx
open PySem PySem.Spec L2 Da
def N_frozen_li (a0 : (List Int)) : Res (List Int) :=
  ((lcR a0 (fun x1 => Res.ok true) (fun x1 => (N_frozen_i x1))).bind fun x2 => (Res.ok x2))
theorem nr_frozen_li (n : Nat) (a0 : (List Int)) : Rf (r_frozen (n + 2) [(eL D.int) a0]) (N_frozen_li a0) (eT D.int) :=
  n_runF ((t_ifT (evTr (ev1 rfl (isi2_a isTy_list_lst)) rfl) (t_retF (q_on (a_i (rf_lcp (it_L (e := D.int) (xs := a0) rfl) (fun x1 : Int => [some ((eL D.int) a0), some (D.int x1)]) (fun _ => rfl) (fun x1 => (rf_ok (v := true) rfl)) (fun x1 => (q_on (a_p rfl (a_0 (rf_chk (nr_frozen_i (n + 0) x1) rfl)))))) fun x2 => (a_0 (rf_ok rfl)))))))
theorem n_frozen_li (a0 : (List Int)) : Rf (m_frozen [(eL D.int) a0]) (N_frozen_li a0) (eT D.int) := nr_frozen_li 4 a0
end Kx
namespace Kx
open PySem PySem.Spec L2 Da
def F_lane_prices : FS := (fSeq (fSet 1 (fOn (chk 1 m_frozen) (fA (fV 1) fA0)))
    (fSeq (fIfS (fB (f2 dNe (fOn (on1 dLen) (fA (fV 1) fA0)) (fOn (on1 dLen) (fA (f1 (dFld "Net" "lane_row") (fV 0)) fA0)))) (fRaise "BadCount" ["count"] (fA (fOn (on1 dLen) (fA (fV 1) fA0)) fA0)) fNext)
    (fSeq (fFor (fEnum (fA (fV 1) fA0)) (gT (gsC (gN 2) (gsC (gN 3) gs0))) (fFgt [2, 3] (fIfS (fB (f2 dLt (fV 3) (fC (.int 1)))) (fRaise "BadPrice" ["index"] (fA (fV 2) fA0)) fNext)))
    (fRet (fDcT [4, 3] (fZip (fA (f1 (dFld "Net" "lane_row") (fV 0)) (fA (fV 1) fA0))) (gT (gsC (gN 4) (gsC (gN 3) gs0))) fYes (fV 4) (fV 3))))))
def m_lane_prices : List D → Res D := runF 5 .sh F_lane_prices
def F_goal_heights : FS := (fSeq (fSet 3 (fLc [5] (fR1 (fA (f1 (dFld "Net" "size") (fV 0)) fA0)) (gN 5) fYes (fC .non)))
    (fSeq (fSet 4 (fOn gLstD (fA (fOn gTupD (fA (fC (.int 0)) (fA (fV 2) fA0))) fA0)))
    (fSeq (fWhile (fNx (fTr (fV 4))) (fFgt [5, 6, 7] (fSeq (fAsgX (fHPop 4) (gT (gsC (gN 6) (gsC (gN 5) gs0))))
    (fFgt [7] (fIfS (fB (f1 dIsN (f2 dIx (fV 3) (fV 5)))) (fSeq (fSetIx 3 (fV 6) (fV 5))
    (fFor (fL (f2 dIx (f1 (dFld "Net" "near") (fV 0)) (fV 5))) (gN 7) (fFgt [7] (fFgt [] (fIfS (fB (f1 dIsN (f2 dIx (fV 3) (fV 7)))) (fHPush 4 (fOn gTupD (fA (f2 dAdd (fV 6) (f2 dGetT (fV 1) (fOn gTupD (fA (fV 7) (fA (fV 5) fA0))))) (fA (fV 7) fA0)))) fNext))))) fNext)))))
    (fRet (fOn (on1 dTuple) (fA (fV 3) fA0))))))
def m_goal_heights : List D → Res D := runF 8 .sh F_goal_heights
def F_descent : FS := (fSeq (fSet 4 (fOn gLstD (fA (fV 3) fA0)))
    (fSeq (fWhile (fB (f2 dGt (f2 dIx (fV 2) (f2 dIx (fV 4) (f1 dNeg (fC (.int 1))))) (fC (.int 0)))) (fFgt [5, 6] (fSeq (fSet 5 (f2 dIx (fV 4) (f1 dNeg (fC (.int 1)))))
    (fFor (fL (f2 dIx (f1 (dFld "Net" "near") (fV 0)) (fV 5))) (gN 6) (fFgt [6] (fIfS (fB (f2 dEq (f2 dIx (fV 2) (fV 5)) (f2 dAdd (f2 dGetT (fV 1) (fOn gTupD (fA (fV 5) (fA (fV 6) fA0)))) (f2 dIx (fV 2) (fV 6))))) (fSeq (fApp 4 (fV 6))
    fBrk) fNext))))))
    (fRet (fOn (on1 dTuple) (fA (fV 4) fA0)))))
def m_descent : List D → Res D := runF 7 .sh F_descent
def F_priced_book : FS := (fSeq (fSet 2 (fOn (chk 2 m_lane_prices) (fA (fV 0) (fA (fV 1) fA0))))
    (fSeq (fSet 3 (fLc [7] (fR1 (fA (f1 (dFld "Net" "size") (fV 0)) fA0)) (gN 7) fYes (fOn gLstD fA0)))
    (fSeq (fFor (fR1 (fA (f1 (dFld "Net" "size") (fV 0)) fA0)) (gN 4) (fFgt [4, 5, 6] (fSeq (fSet 5 (fOn (chk 3 m_goal_heights) (fA (fV 0) (fA (fV 2) (fA (fV 4) fA0)))))
    (fFor (fR1 (fA (f1 (dFld "Net" "size") (fV 0)) fA0)) (gN 6) (fFgt [6] (fApp2 3 (fV 6) (fOn (chk 4 m_descent) (fA (fV 0) (fA (fV 2) (fA (fV 5) (fA (fV 6) fA0)))))))))))
    (fRet (fOn (chk 2 m_Book_init) (fA (fV 0) (fA (fV 3) fA0)))))))
def m_priced_book : List D → Res D := runF 8 .sh F_priced_book
def F_heights : FS := (fRet (fOn (chk 3 m_goal_heights) (fA (fV 0) (fA (fOn (chk 2 m_lane_prices) (fA (fV 0) (fA (fV 1) fA0))) (fA (fV 2) fA0)))))
def m_heights : List D → Res D := runF 3 .sh F_heights
def N_lane_prices_cNetitpiiqttitpiiqq_li (a0 : (Int × (List (Int × Int)) × (List (List Int)) × (List (Int × Int)))) (a1 : (List Int)) : Res (List ((Int × Int) × Int)) :=
  ((N_frozen_li a1).bind fun x1 =>
  (if (!decide ((x1.length : Int) = (a0.2.2.2.length : Int))) = true then (Res.ex "BadCount" [("count", D.int (x1.length : Int))]) else
  ((forR (σ := Unit) (fun x2 x3 => (if (decide (x3.2 < 1)) = true then (Res.ex "BadPrice" [("index", D.int x3.1)]) else
  Res.ok ())) (enumI 0 x1) ()).bind fun x4 =>
  (dcR (a0.2.2.2.zip x1) (fun x5 => Res.ok true) (fun x5 => (Res.ok x5.1)) (fun x5 => (Res.ok x5.2))))))
theorem n_lane_prices_cNetitpiiqttitpiiqq_li (a0 : (Int × (List (Int × Int)) × (List (List Int)) × (List (Int × Int)))) (a1 : (List Int)) : Rf (m_lane_prices [(eOb4 "Net" "size" "links" "near" "lane_row" D.int (eT (eP2 D.int D.int)) (eT (eT D.int)) (eT (eP2 D.int D.int))) a0, (eL D.int) a1]) (N_lane_prices_cNetitpiiqttitpiiqq_li a0 a1) (eDt (kP2 kI kI) D.int) :=
  n_runF ((t_seq fin_F (fun x1 : (List Int) => [some ((eOb4 "Net" "size" "links" "near" "lane_row" D.int (eT (eP2 D.int D.int)) (eT (eT D.int)) (eT (eP2 D.int D.int))) a0), some ((eT D.int) x1), none, none, none]) (s_set (e := (eT D.int)) _ (q_on (a_p rfl (a_0 (rf_chk (n_frozen_li a1) rfl)))) fun _ => rfl) fun x1 =>
  (t_if (evB (ev2 (evOn (evA rfl rfl) op_lenT) (evOn (evA (ev1 rfl (fld_skip (by decide) (fld_skip (by decide) (fld_skip (by decide) fld_hit)))) rfl) op_lenT) (op_ne (e := D.int) (x := (x1.length : Int)) (x' := (a0.2.2.2.length : Int))))) (t_raise fin_F (a_p (evOn (evA rfl rfl) op_lenT) (a_0 (rf_ex rfl))))
  (t_nextS (t_seq fin_F (fun x4 : Unit => [some ((eOb4 "Net" "size" "links" "near" "lane_row" D.int (eT (eP2 D.int D.int)) (eT (eT D.int)) (eT (eP2 D.int D.int))) a0), some ((eT D.int) x1), none, none, none]) (s_forp (ex := (eP2 D.int D.int)) (s0 := ()) (it_enT (e := D.int) (xs := x1) rfl) (fun x2 : Unit => [some ((eOb4 "Net" "size" "links" "near" "lane_row" D.int (eT (eP2 D.int D.int)) (eT (eT D.int)) (eT (eP2 D.int D.int))) a0), some ((eT D.int) x1), none, none, none]) (fun (x2 : Unit) (x3 : (Int × Int)) => [some ((eOb4 "Net" "size" "links" "near" "lane_row" D.int (eT (eP2 D.int D.int)) (eT (eT D.int)) (eT (eP2 D.int D.int))) a0), some ((eT D.int) x1), some (D.int x3.1), some (D.int x3.2), none]) rfl (fun _ _ => rfl) fun x2 x3 =>
  (t_if rfl (t_raise fin_L (a_p rfl (a_0 (rf_ex rfl))))
  (t_nextS (t_next rfl)))) fun x4 =>
  (t_end (t_retF (rf_dcpT (kd_P2 kd_I kd_I) (inj_kP2 inj_kI inj_kI) (it_zipT (e := (eP2 D.int D.int)) (f := D.int) (xs := a0.2.2.2) (ys := x1) (ev1 rfl (fld_skip (by decide) (fld_skip (by decide) (fld_skip (by decide) fld_hit)))) rfl) (fun x5 : ((Int × Int) × Int) => [some ((eOb4 "Net" "size" "links" "near" "lane_row" D.int (eT (eP2 D.int D.int)) (eT (eT D.int)) (eT (eP2 D.int D.int))) a0), some ((eT D.int) x1), none, some (D.int x5.2), some ((eP2 D.int D.int) x5.1)]) (fun _ => rfl) (fun x5 => (rf_ok (v := true) rfl)) (fun x5 => (rf_ok (e := (eP2 D.int D.int)) rfl)) (fun x5 => (rf_ok (e := D.int) rfl))))))))))
def N_goal_heights_cNetitpiiqttitpiiqq_mpiiqiq_i (a0 : (Int × (List (Int × Int)) × (List (List Int)) × (List (Int × Int)))) (a1 : (List ((Int × Int) × Int))) (a2 : Int) : Res (List (Option Int)) :=
  (((rngR a0.1).bind fun x2 => lcR x2 (fun x1 => Res.ok true) (fun x1 => (Res.ok none))).bind fun x3 =>
  (((whileC (σ := ((List (Option Int)) × (List (Int × Int)))) (β := Unit) (fun x4 => Res.ok (!x4.2.isEmpty)) (fun x4 => ((nx (hpopR x4.2)).bind fun x6 =>
  ((((ixR x4.1 x6.1.2).bind fun x59 => (Res.ok (Option.isNone x59))).bind fun x84 => if x84 = true then ((setR x4.1 x6.1.2 (some x6.1.1)).bind fun x60 =>
  (((ixR a0.2.2.1 x6.1.2).bind fun x82 => (forR (σ := (List (Int × Int))) (fun x61 x62 => ((((ixR x60 x62).bind fun x75 => (Res.ok (Option.isNone x75))).bind fun x80 => if x80 = true then (((((dgetN a1 (x62, x6.1.2)).bind fun x76 => (Res.ok (x6.1.1 + x76))).bind fun x77 => (Res.ok (x77, x62))).bind fun x78 => hpushR x61 x78).bind fun x79 =>
  Res.ok x79) else
  Res.ok x61).bind fun x81 =>
  Res.ok x81)) x82 x6.2)).bind fun x83 =>
  Res.ok (x60, x83))) else
  Res.ok (x4.1, x6.2)).bind fun x85 =>
  Res.ok (.go (x85.1, x85.2))))) FUEL (x3, [(0, a2)])).bind (ctlS (β := Unit))).bind fun x86 =>
  (Res.ok x86.1)))
theorem n_goal_heights_cNetitpiiqttitpiiqq_mpiiqiq_i (a0 : (Int × (List (Int × Int)) × (List (List Int)) × (List (Int × Int)))) (a1 : (List ((Int × Int) × Int))) (a2 : Int) : Rf (m_goal_heights [(eOb4 "Net" "size" "links" "near" "lane_row" D.int (eT (eP2 D.int D.int)) (eT (eT D.int)) (eT (eP2 D.int D.int))) a0, (eDt (kP2 kI kI) D.int) a1, D.int a2]) (N_goal_heights_cNetitpiiqttitpiiqq_mpiiqiq_i a0 a1 a2) (eT (eO D.int)) :=
  n_runF ((t_seq fin_F (fun x3 : (List (Option Int)) => [some ((eOb4 "Net" "size" "links" "near" "lane_row" D.int (eT (eP2 D.int D.int)) (eT (eT D.int)) (eT (eP2 D.int D.int))) a0), some ((eDt (kP2 kI kI) D.int) a1), some (D.int a2), some ((eL (eO D.int)) x3), none, none, none, none]) (s_set (e := (eL (eO D.int))) _ (rf_lc (q_R1 (a_p (ev1 rfl fld_hit) (a_0 k_R1))) (fun x1 : Int => [some ((eOb4 "Net" "size" "links" "near" "lane_row" D.int (eT (eP2 D.int D.int)) (eT (eT D.int)) (eT (eP2 D.int D.int))) a0), some ((eDt (kP2 kI kI) D.int) a1), some (D.int a2), none, none, some (D.int x1), none, none]) (fun _ => rfl) (fun x1 => (rf_ok (v := true) rfl)) (fun x1 => (rf_ok (e := (eO D.int)) rfl))) fun _ => rfl) fun x3 =>
  (t_seqp [some ((eOb4 "Net" "size" "links" "near" "lane_row" D.int (eT (eP2 D.int D.int)) (eT (eT D.int)) (eT (eP2 D.int D.int))) a0), some ((eDt (kP2 kI kI) D.int) a1), some (D.int a2), some ((eL (eO D.int)) x3), some ((eL (eP2 D.int D.int)) [(0, a2)]), none, none, none] (set_p rfl rfl) (t_seq fin_F (fun x86 : ((List (Option Int)) × (List (Int × Int))) => [some ((eOb4 "Net" "size" "links" "near" "lane_row" D.int (eT (eP2 D.int D.int)) (eT (eT D.int)) (eT (eP2 D.int D.int))) a0), some ((eDt (kP2 kI kI) D.int) a1), some (D.int a2), some ((eL (eO D.int)) x86.1), some ((eL (eP2 D.int D.int)) x86.2), none, none, none]) (s_while (s0 := (x3, [(0, a2)])) (fun x4 : ((List (Option Int)) × (List (Int × Int))) => [some ((eOb4 "Net" "size" "links" "near" "lane_row" D.int (eT (eP2 D.int D.int)) (eT (eT D.int)) (eT (eP2 D.int D.int))) a0), some ((eDt (kP2 kI kI) D.int) a1), some (D.int a2), some ((eL (eO D.int)) x4.1), some ((eL (eP2 D.int D.int)) x4.2), none, none, none]) rfl (fun x4 => (rf_ok (e := fun b => b) (evNx (evTr rfl op_trL)))) fun x4 =>
  (t_assoc (t_seq fin_L (fun x6 : ((Int × Int) × (List (Int × Int))) => [some ((eOb4 "Net" "size" "links" "near" "lane_row" D.int (eT (eP2 D.int D.int)) (eT (eT D.int)) (eT (eP2 D.int D.int))) a0), some ((eDt (kP2 kI kI) D.int) a1), some (D.int a2), some ((eL (eO D.int)) x4.1), some ((eL (eP2 D.int D.int)) x6.2), some (D.int x6.1.2), some (D.int x6.1.1), none]) (s_asgX (fun v : ((Int × Int) × (List (Int × Int))) => [some ((eOb4 "Net" "size" "links" "near" "lane_row" D.int (eT (eP2 D.int D.int)) (eT (eT D.int)) (eT (eP2 D.int D.int))) a0), some ((eDt (kP2 kI kI) D.int) a1), some (D.int a2), some ((eL (eO D.int)) x4.1), some ((eL (eP2 D.int D.int)) v.2), some (D.int v.1.2), some (D.int v.1.1), none]) (x_hpop (xs := x4.2) (fun ys : (List (Int × Int)) => [some ((eOb4 "Net" "size" "links" "near" "lane_row" D.int (eT (eP2 D.int D.int)) (eT (eT D.int)) (eT (eP2 D.int D.int))) a0), some ((eDt (kP2 kI kI) D.int) a1), some (D.int a2), some ((eL (eO D.int)) x4.1), some ((eL (eP2 D.int D.int)) ys), none, none, none]) rfl fun _ => rfl) fun _ => rfl) fun x6 =>
  (t_seq fin_L (fun x85 : ((List (Option Int)) × (List (Int × Int))) => [some ((eOb4 "Net" "size" "links" "near" "lane_row" D.int (eT (eP2 D.int D.int)) (eT (eT D.int)) (eT (eP2 D.int D.int))) a0), some ((eDt (kP2 kI kI) D.int) a1), some (D.int a2), some ((eL (eO D.int)) x85.1), some ((eL (eP2 D.int D.int)) x85.2), some (D.int x6.1.2), some (D.int x6.1.1), none]) (s_if (o' := (fun s : ((List (Option Int)) × (List (Int × Int))) => Fl.nx [some ((eOb4 "Net" "size" "links" "near" "lane_row" D.int (eT (eP2 D.int D.int)) (eT (eT D.int)) (eT (eP2 D.int D.int))) a0), some ((eDt (kP2 kI kI) D.int) a1), some (D.int a2), some ((eL (eO D.int)) s.1), some ((eL (eP2 D.int D.int)) s.2), some (D.int x6.1.2), some (D.int x6.1.1), none])) (t_ifI fin_S (q_B (b_iB (q_f1 (b_i (q_f2 (b_p rfl (b_p rfl op_ixL))) fun x59 => (rf_ok (op_isN fun _ => rfl)))))) (t_assoc (t_seq fin_S (fun x60 : (List (Option Int)) => [some ((eOb4 "Net" "size" "links" "near" "lane_row" D.int (eT (eP2 D.int D.int)) (eT (eT D.int)) (eT (eP2 D.int D.int))) a0), some ((eDt (kP2 kI kI) D.int) a1), some (D.int a2), some ((eL (eO D.int)) x60), some ((eL (eP2 D.int D.int)) x6.2), some (D.int x6.1.2), some (D.int x6.1.1), none]) (s_setIx (e := (eO D.int)) (xs := x4.1) (d := (some x6.1.1)) (fun ys : (List (Option Int)) => [some ((eOb4 "Net" "size" "links" "near" "lane_row" D.int (eT (eP2 D.int D.int)) (eT (eT D.int)) (eT (eP2 D.int D.int))) a0), some ((eDt (kP2 kI kI) D.int) a1), some (D.int a2), some ((eL (eO D.int)) ys), some ((eL (eP2 D.int D.int)) x6.2), some (D.int x6.1.2), some (D.int x6.1.1), none]) rfl rfl rfl fun _ => rfl) fun x60 =>
  (t_seq fin_S (fun x83 : (List (Int × Int)) => [some ((eOb4 "Net" "size" "links" "near" "lane_row" D.int (eT (eP2 D.int D.int)) (eT (eT D.int)) (eT (eP2 D.int D.int))) a0), some ((eDt (kP2 kI kI) D.int) a1), some (D.int a2), some ((eL (eO D.int)) x60), some ((eL (eP2 D.int D.int)) x83), some (D.int x6.1.2), some (D.int x6.1.1), none]) (s_for (ex := D.int) (s0 := x6.2) (q_L (b_iL (q := (eT D.int)) (e := D.int) (q_f2 (b_p (ev1 rfl (fld_skip (by decide) (fld_skip (by decide) fld_hit))) (b_p rfl op_ixT))) fun _ => rfl)) (fun x61 : (List (Int × Int)) => [some ((eOb4 "Net" "size" "links" "near" "lane_row" D.int (eT (eP2 D.int D.int)) (eT (eT D.int)) (eT (eP2 D.int D.int))) a0), some ((eDt (kP2 kI kI) D.int) a1), some (D.int a2), some ((eL (eO D.int)) x60), some ((eL (eP2 D.int D.int)) x61), some (D.int x6.1.2), some (D.int x6.1.1), none]) (fun (x61 : (List (Int × Int))) (x62 : Int) => [some ((eOb4 "Net" "size" "links" "near" "lane_row" D.int (eT (eP2 D.int D.int)) (eT (eT D.int)) (eT (eP2 D.int D.int))) a0), some ((eDt (kP2 kI kI) D.int) a1), some (D.int a2), some ((eL (eO D.int)) x60), some ((eL (eP2 D.int D.int)) x61), some (D.int x6.1.2), some (D.int x6.1.1), some (D.int x62)]) rfl (fun _ _ => rfl) fun x61 x62 =>
  (t_seq fin_L (fun x81 : (List (Int × Int)) => [some ((eOb4 "Net" "size" "links" "near" "lane_row" D.int (eT (eP2 D.int D.int)) (eT (eT D.int)) (eT (eP2 D.int D.int))) a0), some ((eDt (kP2 kI kI) D.int) a1), some (D.int a2), some ((eL (eO D.int)) x60), some ((eL (eP2 D.int D.int)) x81), some (D.int x6.1.2), some (D.int x6.1.1), some (D.int x62)]) (s_if (o' := (fun s : (List (Int × Int)) => Fl.nx [some ((eOb4 "Net" "size" "links" "near" "lane_row" D.int (eT (eP2 D.int D.int)) (eT (eT D.int)) (eT (eP2 D.int D.int))) a0), some ((eDt (kP2 kI kI) D.int) a1), some (D.int a2), some ((eL (eO D.int)) x60), some ((eL (eP2 D.int D.int)) s), some (D.int x6.1.2), some (D.int x6.1.1), some (D.int x62)])) (t_ifI fin_S (q_B (b_iB (q_f1 (b_i (q_f2 (b_p rfl (b_p rfl op_ixL))) fun x75 => (rf_ok (op_isN fun _ => rfl)))))) (t_seq fin_S (fun x79 : (List (Int × Int)) => [some ((eOb4 "Net" "size" "links" "near" "lane_row" D.int (eT (eP2 D.int D.int)) (eT (eT D.int)) (eT (eP2 D.int D.int))) a0), some ((eDt (kP2 kI kI) D.int) a1), some (D.int a2), some ((eL (eO D.int)) x60), some ((eL (eP2 D.int D.int)) x79), some (D.int x6.1.2), some (D.int x6.1.1), some (D.int x62)]) (s_hpushI (xs := x61) (fun ys : (List (Int × Int)) => [some ((eOb4 "Net" "size" "links" "near" "lane_row" D.int (eT (eP2 D.int D.int)) (eT (eT D.int)) (eT (eP2 D.int D.int))) a0), some ((eDt (kP2 kI kI) D.int) a1), some (D.int a2), some ((eL (eO D.int)) x60), some ((eL (eP2 D.int D.int)) ys), some (D.int x6.1.2), some (D.int x6.1.1), some (D.int x62)]) rfl (q_on (a_i (q_f2 (b_p rfl (b_i (q_f2 (b_p rfl (b_p rfl (op_dgetT (kd_P2 kd_I kd_I) (inj_kP2 inj_kI inj_kI))))) fun x76 => (rf_ok rfl)))) fun x77 => (a_p rfl (a_0 (rf_ok rfl))))) fun _ => rfl) fun x79 =>
  (t_next rfl))
  (t_nextS (t_next rfl)))) fun x81 =>
  (t_next rfl))) fun x83 =>
  (t_next rfl))))
  (t_nextS (t_next rfl)))) fun x85 =>
  (t_next rfl))))) fun x86 =>
  (t_end (t_retF (rf_ok (e := (eT (eO D.int))) rfl)))))))
def N_heights_cNetitpiiqttitpiiqq_li_i (a0 : (Int × (List (Int × Int)) × (List (List Int)) × (List (Int × Int)))) (a1 : (List Int)) (a2 : Int) : Res (List (Option Int)) :=
  ((N_lane_prices_cNetitpiiqttitpiiqq_li a0 a1).bind fun x1 => (N_goal_heights_cNetitpiiqttitpiiqq_mpiiqiq_i a0 x1 a2))
theorem n_heights_cNetitpiiqttitpiiqq_li_i (a0 : (Int × (List (Int × Int)) × (List (List Int)) × (List (Int × Int)))) (a1 : (List Int)) (a2 : Int) : Rf (m_heights [(eOb4 "Net" "size" "links" "near" "lane_row" D.int (eT (eP2 D.int D.int)) (eT (eT D.int)) (eT (eP2 D.int D.int))) a0, (eL D.int) a1, D.int a2]) (N_heights_cNetitpiiqttitpiiqq_li_i a0 a1 a2) (eT (eO D.int)) :=
  n_runF ((t_end (t_retF (q_on (a_p rfl (a_i (q_on (a_p rfl (a_p rfl (a_0 (rf_chk (n_lane_prices_cNetitpiiqttitpiiqq_li a0 a1) rfl))))) fun x1 => (a_p rfl (a_0 (rf_chk (n_goal_heights_cNetitpiiqttitpiiqq_mpiiqiq_i a0 x1 a2) rfl)))))))))
def N_descent_cNetitpiiqttitpiiqq_mpiiqiq_toi_i (a0 : (Int × (List (Int × Int)) × (List (List Int)) × (List (Int × Int)))) (a1 : (List ((Int × Int) × Int))) (a2 : (List (Option Int))) (a3 : Int) : Res (List Int) :=
  (((whileC (σ := (List Int)) (β := Unit) (fun x1 => ((((ixR x1 (-1)).bind fun x3 => (ixR a2 x3)).bind unO).bind fun x4 => (Res.ok (decide (0 < x4))))) (fun x1 => ((ixR x1 (-1)).bind fun x5 =>
  (((ixR a0.2.2.1 x5).bind fun x14 => ((forC (σ := (List Int)) (β := Unit) (fun x6 x7 => (((ixR a2 x5).bind fun x10 => (((dgetN a1 (x5, x7)).bind fun x8 => (((ixR a2 x7).bind unO).bind fun x9 => (Res.ok (x8 + x9)))).bind fun x11 => (Res.ok (eqB x10 (some x11))))).bind fun x13 => if x13 = true then ((appR x6 x7).bind fun x12 =>
  Res.ok (.out x12)) else
  Res.ok (.go x6))) x14 x1).bind (ctlS (β := Unit)))).bind fun x15 =>
  Res.ok (.go x15)))) FUEL [a3]).bind (ctlS (β := Unit))).bind fun x16 =>
  (Res.ok x16))
theorem n_descent_cNetitpiiqttitpiiqq_mpiiqiq_toi_i (a0 : (Int × (List (Int × Int)) × (List (List Int)) × (List (Int × Int)))) (a1 : (List ((Int × Int) × Int))) (a2 : (List (Option Int))) (a3 : Int) : Rf (m_descent [(eOb4 "Net" "size" "links" "near" "lane_row" D.int (eT (eP2 D.int D.int)) (eT (eT D.int)) (eT (eP2 D.int D.int))) a0, (eDt (kP2 kI kI) D.int) a1, (eT (eO D.int)) a2, D.int a3]) (N_descent_cNetitpiiqttitpiiqq_mpiiqiq_toi_i a0 a1 a2 a3) (eT D.int) :=
  n_runF ((t_seqp [some ((eOb4 "Net" "size" "links" "near" "lane_row" D.int (eT (eP2 D.int D.int)) (eT (eT D.int)) (eT (eP2 D.int D.int))) a0), some ((eDt (kP2 kI kI) D.int) a1), some ((eT (eO D.int)) a2), some (D.int a3), some ((eL D.int) [a3]), none, none] (set_p rfl rfl) (t_seq fin_F (fun x16 : (List Int) => [some ((eOb4 "Net" "size" "links" "near" "lane_row" D.int (eT (eP2 D.int D.int)) (eT (eT D.int)) (eT (eP2 D.int D.int))) a0), some ((eDt (kP2 kI kI) D.int) a1), some ((eT (eO D.int)) a2), some (D.int a3), some ((eL D.int) x16), none, none]) (s_while (s0 := [a3]) (fun x1 : (List Int) => [some ((eOb4 "Net" "size" "links" "near" "lane_row" D.int (eT (eP2 D.int D.int)) (eT (eT D.int)) (eT (eP2 D.int D.int))) a0), some ((eDt (kP2 kI kI) D.int) a1), some ((eT (eO D.int)) a2), some (D.int a3), some ((eL D.int) x1), none, none]) rfl (fun x1 => (q_B (b_iB (q_f2 (b_i (rf_unOI (q_f2 (b_p rfl (b_i (q_f2 (b_p rfl (b_p rfl op_ixL))) fun x3 => op_ixT)))) fun x4 => (b_p rfl (rf_ok rfl))))))) fun x1 =>
  (t_assoc (t_seq fin_L (fun x5 : Int => [some ((eOb4 "Net" "size" "links" "near" "lane_row" D.int (eT (eP2 D.int D.int)) (eT (eT D.int)) (eT (eP2 D.int D.int))) a0), some ((eDt (kP2 kI kI) D.int) a1), some ((eT (eO D.int)) a2), some (D.int a3), some ((eL D.int) x1), some (D.int x5), none]) (s_set (e := D.int) _ (q_f2 (b_p rfl (b_p rfl op_ixL))) fun _ => rfl) fun x5 =>
  (t_seq fin_L (fun x15 : (List Int) => [some ((eOb4 "Net" "size" "links" "near" "lane_row" D.int (eT (eP2 D.int D.int)) (eT (eT D.int)) (eT (eP2 D.int D.int))) a0), some ((eDt (kP2 kI kI) D.int) a1), some ((eT (eO D.int)) a2), some (D.int a3), some ((eL D.int) x15), some (D.int x5), none]) (s_forB (ex := D.int) (s0 := x1) (q_L (b_iL (q := (eT D.int)) (e := D.int) (q_f2 (b_p (ev1 rfl (fld_skip (by decide) (fld_skip (by decide) fld_hit))) (b_p rfl op_ixT))) fun _ => rfl)) (fun x6 : (List Int) => [some ((eOb4 "Net" "size" "links" "near" "lane_row" D.int (eT (eP2 D.int D.int)) (eT (eT D.int)) (eT (eP2 D.int D.int))) a0), some ((eDt (kP2 kI kI) D.int) a1), some ((eT (eO D.int)) a2), some (D.int a3), some ((eL D.int) x6), some (D.int x5), none]) (fun (x6 : (List Int)) (x7 : Int) => [some ((eOb4 "Net" "size" "links" "near" "lane_row" D.int (eT (eP2 D.int D.int)) (eT (eT D.int)) (eT (eP2 D.int D.int))) a0), some ((eDt (kP2 kI kI) D.int) a1), some ((eT (eO D.int)) a2), some (D.int a3), some ((eL D.int) x6), some (D.int x5), some (D.int x7)]) rfl (fun _ _ => rfl) fun x6 x7 =>
  (t_ifI fin_L (q_B (b_iB (q_f2 (b_i (q_f2 (b_p rfl (b_p rfl op_ixT))) fun x10 => (b_i (q_f2 (b_i (q_f2 (b_p rfl (b_p rfl (op_dgetT (kd_P2 kd_I kd_I) (inj_kP2 inj_kI inj_kI))))) fun x8 => (b_i (rf_unOI (q_f2 (b_p rfl (b_p rfl op_ixT)))) fun x9 => (rf_ok rfl)))) fun x11 => (rf_ok (op_eq (e := (eO D.int)) (x := x10) (x' := (some x11))))))))) (t_assoc (t_seq fin_L (fun x12 : (List Int) => [some ((eOb4 "Net" "size" "links" "near" "lane_row" D.int (eT (eP2 D.int D.int)) (eT (eT D.int)) (eT (eP2 D.int D.int))) a0), some ((eDt (kP2 kI kI) D.int) a1), some ((eT (eO D.int)) a2), some (D.int a3), some ((eL D.int) x12), some (D.int x5), some (D.int x7)]) (s_app (e := D.int) (xs := x6) (d := x7) (fun ys : (List Int) => [some ((eOb4 "Net" "size" "links" "near" "lane_row" D.int (eT (eP2 D.int D.int)) (eT (eT D.int)) (eT (eP2 D.int D.int))) a0), some ((eDt (kP2 kI kI) D.int) a1), some ((eT (eO D.int)) a2), some (D.int a3), some ((eL D.int) ys), some (D.int x5), some (D.int x7)]) rfl rfl fun _ => rfl) fun x12 =>
  (t_brk rfl)))
  (t_nextS (t_next rfl)))) fun x15 =>
  (t_next rfl))))) fun x16 =>
  (t_end (t_retF (rf_ok (e := (eT D.int)) rfl))))))
def N_priced_book_cNetitpiiqttitpiiqq_li (a0 : (Int × (List (Int × Int)) × (List (List Int)) × (List (Int × Int)))) (a1 : (List Int)) : Res ((Int × (List (Int × Int)) × (List (List Int)) × (List (Int × Int))) × (List (List (List Int)))) :=
  ((N_lane_prices_cNetitpiiqttitpiiqq_li a0 a1).bind fun x1 =>
  (((rngR a0.1).bind fun x3 => lcR x3 (fun x2 => Res.ok true) (fun x2 => (Res.ok []))).bind fun x4 =>
  (((rngR a0.1).bind fun x14 => (forR (σ := (List (List (List Int)))) (fun x5 x6 => ((N_goal_heights_cNetitpiiqttitpiiqq_mpiiqiq_i a0 x1 x6).bind fun x7 =>
  (((rngR a0.1).bind fun x12 => (forR (σ := (List (List (List Int)))) (fun x8 x9 => (((Res.ok x9).bind fun x9 => (nx (N_descent_cNetitpiiqttitpiiqq_mpiiqiq_toi_i a0 x1 x7 x9)).bind fun x10 => (app2R x8 x9 x10)).bind fun x11 =>
  Res.ok x11)) x12 x5)).bind fun x13 =>
  Res.ok x13))) x14 x4)).bind fun x15 =>
  (N_Book_init_cNetitpiiqttitpiiqq_llti a0 x15))))
theorem n_priced_book_cNetitpiiqttitpiiqq_li (a0 : (Int × (List (Int × Int)) × (List (List Int)) × (List (Int × Int)))) (a1 : (List Int)) : Rf (m_priced_book [(eOb4 "Net" "size" "links" "near" "lane_row" D.int (eT (eP2 D.int D.int)) (eT (eT D.int)) (eT (eP2 D.int D.int))) a0, (eL D.int) a1]) (N_priced_book_cNetitpiiqttitpiiqq_li a0 a1) (eOb2 "Book" "net" "rows" (eOb4 "Net" "size" "links" "near" "lane_row" D.int (eT (eP2 D.int D.int)) (eT (eT D.int)) (eT (eP2 D.int D.int))) (eT (eT (eT D.int)))) :=
  n_runF ((t_seq fin_F (fun x1 : (List ((Int × Int) × Int)) => [some ((eOb4 "Net" "size" "links" "near" "lane_row" D.int (eT (eP2 D.int D.int)) (eT (eT D.int)) (eT (eP2 D.int D.int))) a0), some ((eL D.int) a1), some ((eDt (kP2 kI kI) D.int) x1), none, none, none, none, none]) (s_set (e := (eDt (kP2 kI kI) D.int)) _ (q_on (a_p rfl (a_p rfl (a_0 (rf_chk (n_lane_prices_cNetitpiiqttitpiiqq_li a0 a1) rfl))))) fun _ => rfl) fun x1 =>
  (t_seq fin_F (fun x4 : (List (List (List Int))) => [some ((eOb4 "Net" "size" "links" "near" "lane_row" D.int (eT (eP2 D.int D.int)) (eT (eT D.int)) (eT (eP2 D.int D.int))) a0), some ((eL D.int) a1), some ((eDt (kP2 kI kI) D.int) x1), some ((eL (eL (eT D.int))) x4), none, none, none, none]) (s_set (e := (eL (eL (eT D.int)))) _ (rf_lc (q_R1 (a_p (ev1 rfl fld_hit) (a_0 k_R1))) (fun x2 : Int => [some ((eOb4 "Net" "size" "links" "near" "lane_row" D.int (eT (eP2 D.int D.int)) (eT (eT D.int)) (eT (eP2 D.int D.int))) a0), some ((eL D.int) a1), some ((eDt (kP2 kI kI) D.int) x1), none, none, none, none, some (D.int x2)]) (fun _ => rfl) (fun x2 => (rf_ok (v := true) rfl)) (fun x2 => (rf_ok (e := (eL (eT D.int))) rfl))) fun _ => rfl) fun x4 =>
  (t_seq fin_F (fun x15 : (List (List (List Int))) => [some ((eOb4 "Net" "size" "links" "near" "lane_row" D.int (eT (eP2 D.int D.int)) (eT (eT D.int)) (eT (eP2 D.int D.int))) a0), some ((eL D.int) a1), some ((eDt (kP2 kI kI) D.int) x1), some ((eL (eL (eT D.int))) x15), none, none, none, none]) (s_for (ex := D.int) (s0 := x4) (q_R1 (a_p (ev1 rfl fld_hit) (a_0 k_R1))) (fun x5 : (List (List (List Int))) => [some ((eOb4 "Net" "size" "links" "near" "lane_row" D.int (eT (eP2 D.int D.int)) (eT (eT D.int)) (eT (eP2 D.int D.int))) a0), some ((eL D.int) a1), some ((eDt (kP2 kI kI) D.int) x1), some ((eL (eL (eT D.int))) x5), none, none, none, none]) (fun (x5 : (List (List (List Int)))) (x6 : Int) => [some ((eOb4 "Net" "size" "links" "near" "lane_row" D.int (eT (eP2 D.int D.int)) (eT (eT D.int)) (eT (eP2 D.int D.int))) a0), some ((eL D.int) a1), some ((eDt (kP2 kI kI) D.int) x1), some ((eL (eL (eT D.int))) x5), some (D.int x6), none, none, none]) rfl (fun _ _ => rfl) fun x5 x6 =>
  (t_assoc (t_seq fin_L (fun x7 : (List (Option Int)) => [some ((eOb4 "Net" "size" "links" "near" "lane_row" D.int (eT (eP2 D.int D.int)) (eT (eT D.int)) (eT (eP2 D.int D.int))) a0), some ((eL D.int) a1), some ((eDt (kP2 kI kI) D.int) x1), some ((eL (eL (eT D.int))) x5), some (D.int x6), some ((eT (eO D.int)) x7), none, none]) (s_set (e := (eT (eO D.int))) _ (q_on (a_p rfl (a_p rfl (a_p rfl (a_0 (rf_chk (n_goal_heights_cNetitpiiqttitpiiqq_mpiiqiq_i a0 x1 x6) rfl)))))) fun _ => rfl) fun x7 =>
  (t_seq fin_L (fun x13 : (List (List (List Int))) => [some ((eOb4 "Net" "size" "links" "near" "lane_row" D.int (eT (eP2 D.int D.int)) (eT (eT D.int)) (eT (eP2 D.int D.int))) a0), some ((eL D.int) a1), some ((eDt (kP2 kI kI) D.int) x1), some ((eL (eL (eT D.int))) x13), some (D.int x6), some ((eT (eO D.int)) x7), none, none]) (s_for (ex := D.int) (s0 := x5) (q_R1 (a_p (ev1 rfl fld_hit) (a_0 k_R1))) (fun x8 : (List (List (List Int))) => [some ((eOb4 "Net" "size" "links" "near" "lane_row" D.int (eT (eP2 D.int D.int)) (eT (eT D.int)) (eT (eP2 D.int D.int))) a0), some ((eL D.int) a1), some ((eDt (kP2 kI kI) D.int) x1), some ((eL (eL (eT D.int))) x8), some (D.int x6), some ((eT (eO D.int)) x7), none, none]) (fun (x8 : (List (List (List Int)))) (x9 : Int) => [some ((eOb4 "Net" "size" "links" "near" "lane_row" D.int (eT (eP2 D.int D.int)) (eT (eT D.int)) (eT (eP2 D.int D.int))) a0), some ((eL D.int) a1), some ((eDt (kP2 kI kI) D.int) x1), some ((eL (eL (eT D.int))) x8), some (D.int x6), some ((eT (eO D.int)) x7), some (D.int x9), none]) rfl (fun _ _ => rfl) fun x8 x9 =>
  (t_seq fin_L (fun x11 : (List (List (List Int))) => [some ((eOb4 "Net" "size" "links" "near" "lane_row" D.int (eT (eP2 D.int D.int)) (eT (eT D.int)) (eT (eP2 D.int D.int))) a0), some ((eL D.int) a1), some ((eDt (kP2 kI kI) D.int) x1), some ((eL (eL (eT D.int))) x11), some (D.int x6), some ((eT (eO D.int)) x7), some (D.int x9), none]) (s_app2IJ (e := (eT D.int)) (xs := x8) (fun ys : (List (List (List Int))) => [some ((eOb4 "Net" "size" "links" "near" "lane_row" D.int (eT (eP2 D.int D.int)) (eT (eT D.int)) (eT (eP2 D.int D.int))) a0), some ((eL D.int) a1), some ((eDt (kP2 kI kI) D.int) x1), some ((eL (eL (eT D.int))) ys), some (D.int x6), some ((eT (eO D.int)) x7), some (D.int x9), none]) rfl (q_on (a_p rfl (a_p rfl (a_p rfl (a_p rfl (a_0 (rf_chk (n_descent_cNetitpiiqttitpiiqq_mpiiqiq_toi_i a0 x1 x7 x9) rfl))))))) (rf_ok (e := D.int) rfl) fun _ => rfl) fun x11 =>
  (t_next rfl))) fun x13 =>
  (t_next rfl))))) fun x15 =>
  (t_end (t_retF (q_on (a_p rfl (a_p rfl (a_0 (rf_chk (n_Book_init_cNetitpiiqttitpiiqq_llti a0 x15) rfl)))))))))))
end Kx
namespace Kx
open PySem PySem.Spec L2 Da
def F_law_net : FS := (fSeq (fSet 2 (fOn (on2 dMin2) (fA (fV 1) (fA (f2 dIx (fOn gLstD (fA (fC (.int 3)) (fA (fC (.int 4)) (fA (fC (.int 5)) (fA (fC (.int 6)) (fA (fC (.int 7)) (fA (fC (.int 2)) (fA (fC (.int 4)) (fA (fC (.int 1)) fA0))))))))) (f2 dIx (fV 0) (fC (.int 0)))) fA0))))
    (fSeq (fSet 3 (fLc [5] (fR1 (fA (fV 2) fA0)) (gN 5) fYes (fV 5)))
    (fSeq (fSet 4 (fOn gLstD fA0))
    (fSeq (fFor (fR2 (fA (fC (.int 1)) (fA (fV 2) fA0))) (gN 5) (fFgt [5] (fAppX 4 (fPop 3 (f2 dMod (f2 dDiv (fOn (on1 dInt) (fA (f2 dIx (fV 0) (fV 5)) fA0)) (fV 5)) (fSc (fOn (on1 dLen) (fA (fV 3) fA0))))))))
    (fSeq (fSet 4 (f2 dAddL (fV 4) (fV 3)))
    (fSeq (fSet 6 (fOn gLstD fA0))
    (fSeq (fFor (fR2 (fA (fC (.int 1)) (fA (fV 2) fA0))) (gN 5) (fFgt [5, 7] (fSeq (fSet 7 (f2 dIx (fV 4) (f2 dMod (fOn (on1 dInt) (fA (f2 dIx (fV 0) (fV 5)) fA0)) (fV 5))))
    (fApp 6 (fOn gTupD (fA (fOn (on2 dMin2) (fA (fV 7) (fA (f2 dIx (fV 4) (fV 5)) fA0))) (fA (fOn (on2 dMax2) (fA (fV 7) (fA (f2 dIx (fV 4) (fV 5)) fA0))) fA0)))))))
    (fSeq (fFor (fR1 (fA (fC (.int 4)) fA0)) (gN 5) (fFgt [5, 7, 8] (fSeq (fSet 7 (f2 dMod (fOn (on1 dInt) (fA (f2 dIx (fV 0) (f2 dAdd (fC (.int 8)) (f2 dMul (fC (.int 3)) (fV 5)))) fA0)) (fV 2)))
    (fSeq (fSet 8 (f2 dMod (fOn (on1 dInt) (fA (f2 dIx (fV 0) (f2 dAdd (fC (.int 9)) (f2 dMul (fC (.int 3)) (fV 5)))) fA0)) (fV 2)))
    (fFgt [] (fIfS (fAnd (fB (f2 dGt (f2 dIx (fV 0) (f2 dAdd (fC (.int 7)) (f2 dMul (fC (.int 3)) (fV 5)))) (fC (.int 0)))) (fAnd (fB (f2 dNe (fV 7) (fV 8))) (fNx (fB (f2 dNotIn (fOn gTupD (fA (fOn (on2 dMin2) (fA (fV 7) (fA (fV 8) fA0))) (fA (fOn (on2 dMax2) (fA (fV 7) (fA (fV 8) fA0))) fA0))) (fV 6)))))) (fApp 6 (fOn gTupD (fA (fOn (on2 dMin2) (fA (fV 7) (fA (fV 8) fA0))) (fA (fOn (on2 dMax2) (fA (fV 7) (fA (fV 8) fA0))) fA0)))) fNext))))))
    (fRet (fOn gLstD (fA (fV 2) (fA (fOn (on1 dSorted) (fA (fV 6) fA0)) fA0))))))))))))
def m_law_net : List D → Res D := runF 9 .ow F_law_net
def N_law_net_li_i (a0 : (List Int)) (a1 : Int) : Res (Int × (List (Int × Int))) :=
  ((((ixR a0 0).bind fun x1 => (ixR [3, 4, 5, 6, 7, 2, 4, 1] x1)).bind fun x2 => (Res.ok (if x2 < a1 then x2 else a1))).bind fun x3 =>
  (((rngR x3).bind fun x5 => lcR x5 (fun x4 => Res.ok true) (fun x4 => (Res.ok x4))).bind fun x6 =>
  (((rng2R 1 x3).bind fun x14 => (forR (σ := ((List Int) × (List Int))) (fun x7 x8 => (((nx ((nx ((((ixR a0 x8).bind fun x9 => (Res.ok x9)).bind fun x10 => (divR x10 x8)).bind fun x11 => (modR x11 (x7.1.length : Int)))).bind fun x12 => popR x7.1 x12)).bind fun v => (appR x7.2 v.1).bind fun ys => Res.ok (ys, v.2)).bind fun x13 =>
  Res.ok (x13.2, x13.1))) x14 (x6, []))).bind fun x15 =>
  ((catR x15.2 x15.1).bind fun x16 =>
  (((rng2R 1 x3).bind fun x29 => (forR (σ := (List (Int × Int))) (fun x17 x18 => (((((ixR a0 x18).bind fun x19 => (Res.ok x19)).bind fun x20 => (modR x20 x18)).bind fun x21 => (ixR x16 x21)).bind fun x22 =>
  (((((ixR x16 x18).bind fun x23 => (Res.ok (if x23 < x22 then x23 else x22))).bind fun x25 => (((ixR x16 x18).bind fun x24 => (Res.ok (if x24 > x22 then x24 else x22))).bind fun x26 => (Res.ok (x25, x26)))).bind fun x27 => appR x17 x27).bind fun x28 =>
  Res.ok x28))) x29 [])).bind fun x30 =>
  (((rngR 4).bind fun x62 => (forR (σ := (List (Int × Int))) (fun x31 x32 => ((((((mulR 3 x32).bind fun x33 => (Res.ok (8 + x33))).bind fun x34 => (ixR a0 x34)).bind fun x35 => (Res.ok x35)).bind fun x36 => (modR x36 x3)).bind fun x37 =>
  ((((((mulR 3 x32).bind fun x38 => (Res.ok (9 + x38))).bind fun x39 => (ixR a0 x39)).bind fun x40 => (Res.ok x40)).bind fun x41 => (modR x41 x3)).bind fun x42 =>
  (((((((mulR 3 x32).bind fun x55 => (Res.ok (7 + x55))).bind fun x56 => (ixR a0 x56)).bind fun x57 => (Res.ok (decide (0 < x57)))).bind fun x58 => (if x58 = true then (Res.ok ((!decide (x37 = x42)) && (!hasB ((if x42 < x37 then x42 else x37), (if x42 > x37 then x42 else x37)) x31))) else Res.ok false)).bind fun x60 => if x60 = true then ((appR x31 ((if x42 < x37 then x42 else x37), (if x42 > x37 then x42 else x37))).bind fun x59 =>
  Res.ok x59) else
  Res.ok x31).bind fun x61 =>
  Res.ok x61)))) x62 x30)).bind fun x63 =>
  (Res.ok (x3, (x63.mergeSort leP)))))))))
theorem n_law_net_li_i (a0 : (List Int)) (a1 : Int) : Rf (m_law_net [(eL D.int) a0, D.int a1]) (N_law_net_li_i a0 a1) (eH2 D.int (eL (eP2 D.int D.int))) :=
  n_runF ((t_seq fin_F (fun x3 : Int => [some ((eL D.int) a0), some (D.int a1), some (D.int x3), none, none, none, none, none, none]) (s_set (e := D.int) _ (q_on (a_p rfl (a_i (q_f2 (b_p rfl (b_i (q_f2 (b_p rfl (b_p rfl op_ixL))) fun x1 => op_ixL))) fun x2 => (a_0 (rf_ok rfl))))) fun _ => rfl) fun x3 =>
  (t_seq fin_F (fun x6 : (List Int) => [some ((eL D.int) a0), some (D.int a1), some (D.int x3), some ((eL D.int) x6), none, none, none, none, none]) (s_set (e := (eL D.int)) _ (rf_lc (q_R1 (a_p rfl (a_0 k_R1))) (fun x4 : Int => [some ((eL D.int) a0), some (D.int a1), some (D.int x3), none, none, some (D.int x4), none, none, none]) (fun _ => rfl) (fun x4 => (rf_ok (v := true) rfl)) (fun x4 => (rf_ok (e := D.int) rfl))) fun _ => rfl) fun x6 =>
  (t_seqp [some ((eL D.int) a0), some (D.int a1), some (D.int x3), some ((eL D.int) x6), some ((eL D.int) []), none, none, none, none] (set_p rfl rfl) (t_seq fin_F (fun x15 : ((List Int) × (List Int)) => [some ((eL D.int) a0), some (D.int a1), some (D.int x3), some ((eL D.int) x15.1), some ((eL D.int) x15.2), none, none, none, none]) (s_for (ex := D.int) (s0 := (x6, [])) (q_R2 (a_p rfl (a_p rfl (a_0 k_R2)))) (fun x7 : ((List Int) × (List Int)) => [some ((eL D.int) a0), some (D.int a1), some (D.int x3), some ((eL D.int) x7.1), some ((eL D.int) x7.2), none, none, none, none]) (fun (x7 : ((List Int) × (List Int))) (x8 : Int) => [some ((eL D.int) a0), some (D.int a1), some (D.int x3), some ((eL D.int) x7.1), some ((eL D.int) x7.2), some (D.int x8), none, none, none]) rfl (fun _ _ => rfl) fun x7 x8 =>
  (t_seq fin_L (fun x13 : ((List Int) × (List Int)) => [some ((eL D.int) a0), some (D.int a1), some (D.int x3), some ((eL D.int) x13.2), some ((eL D.int) x13.1), some (D.int x8), none, none, none]) (s_appX (e := D.int) (xs := x7.2) (fun v : ((List Int) × (List Int)) => [some ((eL D.int) a0), some (D.int a1), some (D.int x3), some ((eL D.int) v.2), some ((eL D.int) v.1), some (D.int x8), none, none, none]) rfl (x_popI (e := D.int) (xs := x7.1) (fun ys : (List Int) => [some ((eL D.int) a0), some (D.int a1), some (D.int x3), some ((eL D.int) ys), some ((eL D.int) x7.2), some (D.int x8), none, none, none]) rfl (q_f2 (b_i (q_f2 (b_i (q_on (a_i (q_f2 (b_p rfl (b_p rfl op_ixL))) fun x9 => (a_0 (rf_ok rfl)))) fun x10 => (b_p rfl op_div))) fun x11 => (b_p (evSc (evOn (evA rfl rfl) op_lenL) rfl) op_mod))) fun _ => rfl) (fun _ => rfl) fun _ _ => rfl) fun x13 =>
  (t_next rfl))) fun x15 =>
  (t_seq fin_F (fun x16 : (List Int) => [some ((eL D.int) a0), some (D.int a1), some (D.int x3), some ((eL D.int) x15.1), some ((eL D.int) x16), none, none, none, none]) (s_set (e := (eL D.int)) _ (q_f2 (b_p rfl (b_p rfl (op_catLL (e := D.int))))) fun _ => rfl) fun x16 =>
  (t_seqp [some ((eL D.int) a0), some (D.int a1), some (D.int x3), some ((eL D.int) x15.1), some ((eL D.int) x16), none, some ((eL (eP2 D.int D.int)) []), none, none] (set_p rfl rfl) (t_seq fin_F (fun x30 : (List (Int × Int)) => [some ((eL D.int) a0), some (D.int a1), some (D.int x3), some ((eL D.int) x15.1), some ((eL D.int) x16), none, some ((eL (eP2 D.int D.int)) x30), none, none]) (s_for (ex := D.int) (s0 := []) (q_R2 (a_p rfl (a_p rfl (a_0 k_R2)))) (fun x17 : (List (Int × Int)) => [some ((eL D.int) a0), some (D.int a1), some (D.int x3), some ((eL D.int) x15.1), some ((eL D.int) x16), none, some ((eL (eP2 D.int D.int)) x17), none, none]) (fun (x17 : (List (Int × Int))) (x18 : Int) => [some ((eL D.int) a0), some (D.int a1), some (D.int x3), some ((eL D.int) x15.1), some ((eL D.int) x16), some (D.int x18), some ((eL (eP2 D.int D.int)) x17), none, none]) rfl (fun _ _ => rfl) fun x17 x18 =>
  (t_assoc (t_seq fin_L (fun x22 : Int => [some ((eL D.int) a0), some (D.int a1), some (D.int x3), some ((eL D.int) x15.1), some ((eL D.int) x16), some (D.int x18), some ((eL (eP2 D.int D.int)) x17), some (D.int x22), none]) (s_set (e := D.int) _ (q_f2 (b_p rfl (b_i (q_f2 (b_i (q_on (a_i (q_f2 (b_p rfl (b_p rfl op_ixL))) fun x19 => (a_0 (rf_ok rfl)))) fun x20 => (b_p rfl op_mod))) fun x21 => op_ixL))) fun _ => rfl) fun x22 =>
  (t_seq fin_L (fun x28 : (List (Int × Int)) => [some ((eL D.int) a0), some (D.int a1), some (D.int x3), some ((eL D.int) x15.1), some ((eL D.int) x16), some (D.int x18), some ((eL (eP2 D.int D.int)) x28), some (D.int x22), none]) (s_appI (e := (eP2 D.int D.int)) (xs := x17) (fun ys : (List (Int × Int)) => [some ((eL D.int) a0), some (D.int a1), some (D.int x3), some ((eL D.int) x15.1), some ((eL D.int) x16), some (D.int x18), some ((eL (eP2 D.int D.int)) ys), some (D.int x22), none]) rfl (q_on (a_i (q_on (a_p rfl (a_i (q_f2 (b_p rfl (b_p rfl op_ixL))) fun x23 => (a_0 (rf_ok rfl))))) fun x25 => (a_i (q_on (a_p rfl (a_i (q_f2 (b_p rfl (b_p rfl op_ixL))) fun x24 => (a_0 (rf_ok rfl))))) fun x26 => (a_0 (rf_ok rfl))))) fun _ => rfl) fun x28 =>
  (t_next rfl))))) fun x30 =>
  (t_seq fin_F (fun x63 : (List (Int × Int)) => [some ((eL D.int) a0), some (D.int a1), some (D.int x3), some ((eL D.int) x15.1), some ((eL D.int) x16), none, some ((eL (eP2 D.int D.int)) x63), none, none]) (s_for (ex := D.int) (s0 := x30) (q_R1 (a_p rfl (a_0 k_R1))) (fun x31 : (List (Int × Int)) => [some ((eL D.int) a0), some (D.int a1), some (D.int x3), some ((eL D.int) x15.1), some ((eL D.int) x16), none, some ((eL (eP2 D.int D.int)) x31), none, none]) (fun (x31 : (List (Int × Int))) (x32 : Int) => [some ((eL D.int) a0), some (D.int a1), some (D.int x3), some ((eL D.int) x15.1), some ((eL D.int) x16), some (D.int x32), some ((eL (eP2 D.int D.int)) x31), none, none]) rfl (fun _ _ => rfl) fun x31 x32 =>
  (t_assoc (t_seq fin_L (fun x37 : Int => [some ((eL D.int) a0), some (D.int a1), some (D.int x3), some ((eL D.int) x15.1), some ((eL D.int) x16), some (D.int x32), some ((eL (eP2 D.int D.int)) x31), some (D.int x37), none]) (s_set (e := D.int) _ (q_f2 (b_i (q_on (a_i (q_f2 (b_p rfl (b_i (q_f2 (b_p rfl (b_i (q_f2 (b_p rfl (b_p rfl op_mul))) fun x33 => (rf_ok rfl)))) fun x34 => op_ixL))) fun x35 => (a_0 (rf_ok rfl)))) fun x36 => (b_p rfl op_mod))) fun _ => rfl) fun x37 =>
  (t_assoc (t_seq fin_L (fun x42 : Int => [some ((eL D.int) a0), some (D.int a1), some (D.int x3), some ((eL D.int) x15.1), some ((eL D.int) x16), some (D.int x32), some ((eL (eP2 D.int D.int)) x31), some (D.int x37), some (D.int x42)]) (s_set (e := D.int) _ (q_f2 (b_i (q_on (a_i (q_f2 (b_p rfl (b_i (q_f2 (b_p rfl (b_i (q_f2 (b_p rfl (b_p rfl op_mul))) fun x38 => (rf_ok rfl)))) fun x39 => op_ixL))) fun x40 => (a_0 (rf_ok rfl)))) fun x41 => (b_p rfl op_mod))) fun _ => rfl) fun x42 =>
  (t_seq fin_L (fun x61 : (List (Int × Int)) => [some ((eL D.int) a0), some (D.int a1), some (D.int x3), some ((eL D.int) x15.1), some ((eL D.int) x16), some (D.int x32), some ((eL (eP2 D.int D.int)) x61), some (D.int x37), some (D.int x42)]) (s_if (o' := (fun s : (List (Int × Int)) => Fl.nx [some ((eL D.int) a0), some (D.int a1), some (D.int x3), some ((eL D.int) x15.1), some ((eL D.int) x16), some (D.int x32), some ((eL (eP2 D.int D.int)) s), some (D.int x37), some (D.int x42)])) (t_ifI fin_S (rAndI (q_B (b_iB (q_f2 (b_i (q_f2 (b_p rfl (b_i (q_f2 (b_p rfl (b_i (q_f2 (b_p rfl (b_p rfl op_mul))) fun x55 => (rf_ok rfl)))) fun x56 => op_ixL))) fun x57 => (b_p rfl (rf_ok rfl)))))) (rf_ok (e := fun b => b) (evAnd (evB (ev2 rfl rfl (op_ne (e := D.int) (x := x37) (x' := x42)))) (evNx (evB (ev2 rfl rfl (op_nmemL (e := (eP2 D.int D.int)) (x := ((if x42 < x37 then x42 else x37), (if x42 > x37 then x42 else x37))) (xs := x31)))))))) (t_seq fin_S (fun x59 : (List (Int × Int)) => [some ((eL D.int) a0), some (D.int a1), some (D.int x3), some ((eL D.int) x15.1), some ((eL D.int) x16), some (D.int x32), some ((eL (eP2 D.int D.int)) x59), some (D.int x37), some (D.int x42)]) (s_app (e := (eP2 D.int D.int)) (xs := x31) (d := ((if x42 < x37 then x42 else x37), (if x42 > x37 then x42 else x37))) (fun ys : (List (Int × Int)) => [some ((eL D.int) a0), some (D.int a1), some (D.int x3), some ((eL D.int) x15.1), some ((eL D.int) x16), some (D.int x32), some ((eL (eP2 D.int D.int)) ys), some (D.int x37), some (D.int x42)]) rfl rfl fun _ => rfl) fun x59 =>
  (t_next rfl))
  (t_nextS (t_next rfl)))) fun x61 =>
  (t_next rfl))))))) fun x63 =>
  (t_end (t_retF (rf_ok (e := (eH2 D.int (eL (eP2 D.int D.int)))) (evOn (evA rfl (evA (evOn (evA rfl rfl) op_sortLP) rfl)) rfl)))))))))))))
end Kx
namespace Kx
open PySem PySem.Spec L2 Da
def F_Book_call : FS := (fRet (f2 dIx (f2 dIx (f1 (dFld "Book" "rows") (fV 0)) (fV 1)) (fV 2)))
def m_Book_call : List D → Res D := runF 3 .sh F_Book_call
def F_law : FS := (fSeq (fSet 1 (fOn (chk 2 m_law_net) (fA (fOn (chk 2 m_law_digits) (fA (fOn (chk 2 m_law_cell) (fA (fV 0) (fA (fC (.int 0)) fA0))) (fA (f2 dAddL (f2 dAddL (fOn gLstD (fA (fC (.int 8)) fA0)) (f2 dRep (fOn gLstD (fA (fC (.int 60)) fA0)) (fC (.int 6)))) (f2 dRep (fOn gLstD (fA (fC (.int 3)) (fA (fC (.int 42)) (fA (fC (.int 42)) fA0)))) (fC (.int 4)))) fA0))) (fA (fC (.int 7)) fA0))))
    (fSeq (fSet 2 (f2 dIx (fV 1) (fC (.int 0))))
    (fSeq (fSet 3 (fOn (chk 2 m_law_near) (fA (fV 2) (fA (f2 dIx (fV 1) (fC (.int 1))) fA0))))
    (fSeq (fSet 4 (fOn (chk 1 m_law_lanes) (fA (fV 3) fA0)))
    (fSeq (fSet 5 (fOn (chk 2 m_law_digits) (fA (fOn (chk 2 m_law_cell) (fA (fV 0) (fA (fC (.int 1)) fA0))) (fA (f2 dAddL (fOn gLstD (fA (fC (.int 3)) fA0)) (f2 dRep (fOn gLstD (fA (f2 dPow (fC (.int 10)) (fC (.int 6))) fA0)) (fC (.int 30)))) fA0))))
    (fSeq (fSet 6 (fOn gLstD fA0))
    (fSeq (fFor (fR1 (fA (fSc (fOn (on1 dLen) (fA (fV 4) fA0))) fA0)) (gN 7) (fFgt [7, 12] (fSeq (fSet 12 (f2 dAdd (f2 dIx (fV 5) (f2 dAdd (fC (.int 1)) (f2 dMod (f2 dMul (fV 7) (fC (.int 7))) (fC (.int 30))))) (f2 dMod (fV 7) (fC (.int 3)))))
    (fApp 6 (f2 dIx (fOn gLstD (fA (f2 dAdd (fC (.int 1)) (f2 dMod (fV 12) (fC (.int 4)))) (fA (f2 dAdd (fC (.int 1)) (f2 dMod (fV 12) (fC (.int 1000)))) (fA (f2 dAdd (f2 dMul (f2 dPow (fC (.int 10)) (fC (.int 38))) (f2 dAdd (fC (.int 1)) (f2 dMod (fV 12) (fC (.int 5))))) (f2 dMod (fV 12) (fC (.int 7)))) fA0)))) (f2 dIx (fV 5) (fC (.int 0))))))))
    (fSeq (fSet 8 (fC (.dit [] [])))
    (fSeq (fFor (fR1 (fA (fSc (fOn (on1 dLen) (fA (fV 4) fA0))) fA0)) (gN 7) (fFgt [7] (fPutT 8 (f2 dIx (fV 6) (fV 7)) (f2 dIx (fV 4) (fV 7)))))
    (fSeq (fSet 9 (fOn (chk 2 m_Net_init) (fA (fV 2) (fA (f2 dIx (fV 1) (fC (.int 1))) fA0))))
    (fSeq (fSet 10 (fOn (chk 2 m_priced_book) (fA (fV 9) (fA (fV 6) fA0))))
    (fSeq (fFor (fR1 (fA (fV 2) fA0)) (gN 11) (fFgt [11, 13, 14, 15, 16] (fSeq (fSet 13 (fOn (chk 3 m_heights) (fA (fV 9) (fA (fOn (on1 dList) (fA (fV 6) fA0)) (fA (fV 11) fA0)))))
    (fSeq (fIfS (fOr (fNot (fNx (fTr (fOn (chk 2 m_law_same) (fA (fV 13) (fA (fOn (chk 3 m_law_heights) (fA (fV 3) (fA (fV 8) (fA (fV 11) fA0)))) fA0)))))) (fB (f2 dNe (f2 dIx (fV 13) (fV 11)) (fC (.int 0))))) (fRet (fC (.bl false))) fNext)
    (fFor (fR1 (fA (fV 2) fA0)) (gN 14) (fFgt [14, 15, 16] (fSeq (fSet 15 (fLc [17] (fL (f2 dIx (fV 3) (fV 14))) (gN 17) fYes (f2 dAdd (f2 dGetT (fV 8) (fOn gTupD (fA (fV 14) (fA (fV 17) fA0)))) (f2 dIx (fV 13) (fV 17)))))
    (fSeq (fIfS (fB (f2 dGt (fSc (fOn (on1 dLen) (fA (fLc [18] (fL (fV 15)) (gN 18) (fB (f2 dLt (fV 18) (f2 dIx (fV 13) (fV 14)))) (fV 18)) fA0))) (fC (.int 0)))) (fRet (fC (.bl false))) fNext)
    (fSeq (fIfS (fAnd (fB (f2 dNe (fV 14) (fV 11))) (fNx (fB (f2 dNotIn (f2 dIx (fV 13) (fV 14)) (fV 15))))) (fRet (fC (.bl false))) fNext)
    (fSeq (fSet 16 (fMeth "Book" "__call__" 3 m_Book_call (fV 10) (fA (fV 14) (fA (fV 11) fA0))))
    (fSeq (fIfS (fOr (fNot (fTr (f1 (dIsi "tuple") (fV 16)))) (fOr (fB (f2 dGt (fOn (on1 dLen) (fA (fV 16) fA0)) (fV 2))) (fOr (fB (f2 dNe (f2 dIx (fV 16) (fC (.int 0))) (fV 14))) (fB (f2 dNe (f2 dIx (fV 16) (f1 dNeg (fC (.int 1)))) (fV 11)))))) (fRet (fC (.bl false))) fNext)
    (fSeq (fIfS (fB (f2 dGt (fOn (on1 dLen) (fA (fLc [7] (fR1 (fA (f2 dSub (fOn (on1 dLen) (fA (fV 16) fA0)) (fC (.int 1))) fA0)) (gN 7) (fNx (fB (f2 (dHasT true) (fOn gTupD (fA (f2 dIx (fV 16) (fV 7)) (fA (f2 dIx (fV 16) (f2 dAdd (fV 7) (fC (.int 1)))) fA0))) (fV 8)))) (fV 7)) fA0)) (fC (.int 0)))) (fRet (fC (.bl false))) fNext)
    (fIfS (fB (f2 dNe (fOn (on1 dSum) (fA (fLc [7] (fR1 (fA (f2 dSub (fOn (on1 dLen) (fA (fV 16) fA0)) (fC (.int 1))) fA0)) (gN 7) fYes (f2 dGetT (fV 8) (fOn gTupD (fA (f2 dIx (fV 16) (fV 7)) (fA (f2 dIx (fV 16) (f2 dAdd (fV 7) (fC (.int 1)))) fA0))))) fA0)) (f2 dIx (fV 13) (fV 14)))) (fRet (fC (.bl false))) fNext)))))))))))))
    (fRet (fC (.bl true)))))))))))))))
def m_law : List D → Res D := runF 19 .sh F_law
def N_law_whole_oi (a0 : (Option Int)) : Res Bool :=
  (Res.ok ((Option.isSome a0) && true))
theorem n_law_whole_oi (a0 : (Option Int)) : Rf (m_law_whole [(eO D.int) a0]) (N_law_whole_oi a0) D.bl :=
  n_runF ((t_end (t_retF (rf_ok (e := D.bl) (evBv (evAnd (evB (ev1 rfl (isi_of (isTy_optS isTy_int_non fun _ => isTy_int_int)))) (evB (evBv (evNot (evB (ev1 rfl (isi_of (isTy_opt isTy_bool_non fun _ => isTy_bool_int)))))))))))))
def N_law_same_oi_oi (a0 : (Option Int)) (a1 : (Option Int)) : Res Bool :=
  (optC a1 (Res.ok (Option.isNone a0)) fun x1 => ((N_law_whole_oi a0).bind fun x2 => (if x2 = true then (Res.ok (eqB a0 (some x1))) else Res.ok false)))
theorem nr_law_same_oi_oi (n : Nat) (a0 : (Option Int)) (a1 : (Option Int)) : Rf (r_law_same (n + 1) [(eO D.int) a0, (eO D.int) a1]) (N_law_same_oi_oi a0 a1) D.bl :=
  n_runF ((t_ifF (evOrF (evTr (ev1 rfl (isi_of (isTy_opt isTy_tuple_non fun _ => isTy_tuple_int))) rfl) (evTr (ev1 rfl (isi_of (isTy_opt isTy_list_non fun _ => isTy_list_int))) rfl)) (t_nextS (t_ifC (x := a1) (fun z : (Option Int) => [some ((eO D.int) a0), some ((eO D.int) z), none]) (t_ifT rfl (t_retF (rf_ok (e := D.bl) (ev1 rfl (op_isN fun _ => rfl))))) fun x1 => (t_ifF rfl (t_nextS (t_ifF rfl (t_nextS (t_ifF rfl (t_nextS (t_ifF (evTr (ev1 rfl (isi_of isTy_str_int)) rfl) (t_nextS (t_end (t_retF (q_Bv (rf_bv (rAndI (q_B (b_iB (q_on (a_p rfl (a_0 (rf_chk (n_law_whole_oi a0) rfl)))))) (rf_ok (e := fun b => b) (evB (ev2 rfl rfl (op_eq (e := (eO D.int)) (x := a0) (x' := (some x1)))))))))))))))))))))))
def N_law_same_toi_loi (a0 : (List (Option Int))) (a1 : (List (Option Int))) : Res Bool :=
  (if (!decide ((a0.length : Int) = (a1.length : Int))) = true then (Res.ok false) else
  ((rngR (a1.length : Int)).bind fun x8 => ((forC (σ := Unit) (β := Bool) (fun x1 x2 => ((((ixR a0 x2).bind fun x3 => ((ixR a1 x2).bind fun x4 => (N_law_same_oi_oi x3 x4))).bind fun x5 => Res.ok (!x5)).bind fun x6 => if x6 = true then Res.ok (.ret false) else
  Res.ok (.go ()))) x8 ()).bind (ctlK (fun x7 => (Res.ok true)) (fun v => v)))))
theorem nr_law_same_toi_loi (n : Nat) (a0 : (List (Option Int))) (a1 : (List (Option Int))) : Rf (r_law_same (n + 2) [(eT (eO D.int)) a0, (eL (eO D.int)) a1]) (N_law_same_toi_loi a0 a1) D.bl :=
  n_runF ((t_ifT (evOrF (evTr (ev1 rfl (isi_of isTy_tuple_lst)) rfl) (evTr (ev1 rfl (isi_of isTy_list_lst)) rfl)) (t_assoc (t_if (evOrF (evNot (evTr (ev1 rfl (isi_of isTy_tuple_tup)) rfl)) (evB (ev2 (evOn (evA rfl rfl) op_lenT) (evOn (evA rfl rfl) op_lenL) (op_ne (e := D.int) (x := (a0.length : Int)) (x' := (a1.length : Int)))))) (t_retF (rf_ok (e := D.bl) rfl))
  (t_nextS (t_assoc (t_forC (ex := D.int) (e := D.bl) (s0 := ()) (rk := (fun v => v)) fin_F (q_R1 (a_p (evOn (evA rfl rfl) op_lenL) (a_0 k_R1))) (fun x1 : Unit => [some ((eT (eO D.int)) a0), some ((eL (eO D.int)) a1), none]) (fun (x1 : Unit) (x2 : Int) => [some ((eT (eO D.int)) a0), some ((eL (eO D.int)) a1), some (D.int x2)]) rfl (fun _ _ => rfl) (fun x1 x2 =>
  (t_ifI fin_L (q_Not (b_i (q_Tr (b_iT (q_on (a_i (q_f2 (b_p rfl (b_p rfl op_ixT))) fun x3 => (a_i (q_f2 (b_p rfl (b_p rfl op_ixL))) fun x4 => (a_0 (rf_chk (nr_law_same_oi_oi (n + 0) x3 x4) rfl))))))) fun _ => rf_ok rfl)) (t_retp rfl rfl)
  (t_nextS (t_next rfl)))) (fun x7 =>
  (t_retF (rf_ok (e := D.bl) rfl))) fun _ => rfl)))))))
theorem n_law_same_toi_loi (a0 : (List (Option Int))) (a1 : (List (Option Int))) : Rf (m_law_same [(eT (eO D.int)) a0, (eL (eO D.int)) a1]) (N_law_same_toi_loi a0 a1) D.bl := nr_law_same_toi_loi 4 a0 a1
def N_Book_call_cBookcNetitpiiqttitpiiqqtttiq_i_i (a0 : ((Int × (List (Int × Int)) × (List (List Int)) × (List (Int × Int))) × (List (List (List Int))))) (a1 : Int) (a2 : Int) : Res (List Int) :=
  ((ixR a0.2 a1).bind fun x1 => (ixR x1 a2))
theorem n_Book_call_cBookcNetitpiiqttitpiiqqtttiq_i_i (a0 : ((Int × (List (Int × Int)) × (List (List Int)) × (List (Int × Int))) × (List (List (List Int))))) (a1 : Int) (a2 : Int) : Rf (m_Book_call [(eOb2 "Book" "net" "rows" (eOb4 "Net" "size" "links" "near" "lane_row" D.int (eT (eP2 D.int D.int)) (eT (eT D.int)) (eT (eP2 D.int D.int))) (eT (eT (eT D.int)))) a0, D.int a1, D.int a2]) (N_Book_call_cBookcNetitpiiqttitpiiqqtttiq_i_i a0 a1 a2) (eT D.int) :=
  n_runF ((t_end (t_retF (q_f2 (b_i (q_f2 (b_p (ev1 rfl (fld_skip (by decide) fld_hit)) (b_p rfl op_ixT))) fun x1 => (b_p rfl op_ixT))))))
def N_law_fi (a0 : (List Int)) : Res Bool :=
  ((((N_law_cell_fi_i a0 0).bind fun x4 => ((((repR [60] 6).bind fun x1 => (catR [8] x1)).bind fun x2 => ((repR [3, 42, 42] 4).bind fun x3 => (catR x2 x3))).bind fun x5 => (N_law_digits_i_li x4 x5))).bind fun x6 => (N_law_net_li_i x6 7)).bind fun x7 =>
  ((N_law_near_i_lpiiq x7.1 x7.2).bind fun x8 =>
  ((N_law_lanes_lli x8).bind fun x9 =>
  (((N_law_cell_fi_i a0 1).bind fun x13 => (((((powR 10 6).bind fun x10 => (Res.ok [x10])).bind fun x11 => (repR x11 30)).bind fun x12 => (catR [3] x12)).bind fun x14 => (N_law_digits_i_li x13 x14))).bind fun x15 =>
  (((rngR (x9.length : Int)).bind fun x30 => (forR (σ := (List Int)) (fun x16 x17 => ((((((mulR x17 7).bind fun x18 => (Res.ok (x18 % 30))).bind fun x19 => (Res.ok (1 + x19))).bind fun x20 => (ixR x15 x20)).bind fun x21 => (Res.ok (x21 + (x17 % 3)))).bind fun x22 =>
  (((((((powR 10 38).bind fun x23 => (mulR x23 (1 + (x22 % 5)))).bind fun x24 => (Res.ok (x24 + (x22 % 7)))).bind fun x25 => (Res.ok [(1 + (x22 % 4)), (1 + (x22 % 1000)), x25])).bind fun x26 => ((ixR x15 0).bind fun x27 => (ixR x26 x27))).bind fun x28 => appR x16 x28).bind fun x29 =>
  Res.ok x29))) x30 [])).bind fun x31 =>
  (((rngR (x9.length : Int)).bind fun x37 => (forR (σ := (List ((Int × Int) × Int))) (fun x32 x33 => (((ixR x31 x33).bind fun x34 => (ixR x9 x33).bind fun x35 => dputR x32 x35 x34).bind fun x36 =>
  Res.ok x36)) x37 [])).bind fun x38 =>
  ((N_Net_init_i_lpiiq x7.1 x7.2).bind fun x39 =>
  ((N_priced_book_cNetitpiiqttitpiiqq_li x39 x31).bind fun x40 =>
  ((rngR x7.1).bind fun x88 => ((forC (σ := Unit) (β := Bool) (fun x41 x42 => ((N_heights_cNetitpiiqttitpiiqq_li_i x39 x31 x42).bind fun x43 =>
  ((((nx ((N_law_heights_lli_mpiiqiq_i x8 x38 x42).bind fun x44 => (N_law_same_toi_loi x43 x44))).bind fun x45 => Res.ok (!x45)).bind fun x47 => (if x47 = true then Res.ok true else ((ixR x43 x42).bind fun x46 => (Res.ok (!eqB x46 (some 0)))))).bind fun x86 => if x86 = true then Res.ok (.ret false) else
  ((rngR x7.1).bind fun x85 => ((forC (σ := Unit) (β := Bool) (fun x48 x49 => (((ixR x8 x49).bind fun x53 => lcR x53 (fun x50 => Res.ok true) (fun x50 => ((dgetN x38 (x49, x50)).bind fun x51 => (((ixR x43 x50).bind unO).bind fun x52 => (Res.ok (x51 + x52)))))).bind fun x54 =>
  (((nx ((lcR x54 (fun x55 => (((ixR x43 x49).bind unO).bind fun x56 => (Res.ok (decide (x55 < x56))))) (fun x55 => (Res.ok x55))).bind fun x57 => (Res.ok (x57.length : Int)))).bind fun x58 => (Res.ok (decide (0 < x58)))).bind fun x83 => if x83 = true then Res.ok (.ret false) else
  ((if (!decide (x49 = x42)) = true then (nx (((ixR x43 x49).bind unO).bind fun x59 => (Res.ok (!decide (x59 ∈ x54))))) else Res.ok false).bind fun x82 => if x82 = true then Res.ok (.ret false) else
  ((N_Book_call_cBookcNetitpiiqttitpiiqqtttiq_i_i x40 x49 x42).bind fun x60 =>
  ((if (decide (x7.1 < (x60.length : Int))) = true then Res.ok true else (((ixR x60 0).bind fun x61 => (Res.ok (!decide (x61 = x49)))).bind fun x63 => (if x63 = true then Res.ok true else ((ixR x60 (-1)).bind fun x62 => (Res.ok (!decide (x62 = x42))))))).bind fun x81 => if x81 = true then Res.ok (.ret false) else
  (((((rngR ((x60.length : Int) - 1)).bind fun x68 => lcR x68 (fun x64 => (nx (((ixR x60 x64).bind fun x65 => ((ixR x60 (x64 + 1)).bind fun x66 => (Res.ok (x65, x66)))).bind fun x67 => (Res.ok (!dhasN x38 x67))))) (fun x64 => (Res.ok x64))).bind fun x69 => (Res.ok (x69.length : Int))).bind fun x70 => (Res.ok (decide (0 < x70)))).bind fun x80 => if x80 = true then Res.ok (.ret false) else
  (((((rngR ((x60.length : Int) - 1)).bind fun x75 => lcR x75 (fun x71 => Res.ok true) (fun x71 => (((ixR x60 x71).bind fun x72 => ((ixR x60 (x71 + 1)).bind fun x73 => (Res.ok (x72, x73)))).bind fun x74 => (dgetN x38 x74)))).bind fun x76 => (Res.ok x76.sum)).bind fun x77 => ((ixR x43 x49).bind fun x78 => (Res.ok (!eqB (some x77) x78)))).bind fun x79 => if x79 = true then Res.ok (.ret false) else
  Res.ok (.go ()))))))))) x85 ()).bind (ctlK (fun x84 => Res.ok (.go ())) (fun v => Ctl.ret v))))))) x88 ()).bind (ctlK (fun x87 => (Res.ok true)) (fun v => v))))))))))))
theorem n_law_fi (a0 : (List Int)) : Rf (m_law [(eF D.int) a0]) (N_law_fi a0) D.bl :=
  n_runF ((t_seq fin_F (fun x7 : (Int × (List (Int × Int))) => [some ((eF D.int) a0), some ((eH2 D.int (eL (eP2 D.int D.int))) x7), none, none, none, none, none, none, none, none, none, none, none, none, none, none, none, none, none]) (s_set (e := (eH2 D.int (eL (eP2 D.int D.int)))) _ (q_on (a_i (q_on (a_i (q_on (a_p rfl (a_p rfl (a_0 (rf_chk (n_law_cell_fi_i a0 0) rfl))))) fun x4 => (a_i (q_f2 (b_i (q_f2 (b_p rfl (b_i (q_f2 (b_p rfl (b_p rfl (op_rep (e := D.int))))) fun x1 => (op_catLL (e := D.int))))) fun x2 => (b_i (q_f2 (b_p rfl (b_p rfl (op_rep (e := D.int))))) fun x3 => (op_catLL (e := D.int))))) fun x5 => (a_0 (rf_chk (n_law_digits_i_li x4 x5) rfl))))) fun x6 => (a_p rfl (a_0 (rf_chk (n_law_net_li_i x6 7) rfl))))) fun _ => rfl) fun x7 =>
  (t_seqp [some ((eF D.int) a0), some ((eH2 D.int (eL (eP2 D.int D.int))) x7), some (D.int x7.1), none, none, none, none, none, none, none, none, none, none, none, none, none, none, none, none] (set_p rfl rfl) (t_seq fin_F (fun x8 : (List (List Int)) => [some ((eF D.int) a0), some ((eH2 D.int (eL (eP2 D.int D.int))) x7), some (D.int x7.1), some ((eL (eL D.int)) x8), none, none, none, none, none, none, none, none, none, none, none, none, none, none, none]) (s_set (e := (eL (eL D.int))) _ (q_on (a_p rfl (a_p rfl (a_0 (rf_chk (n_law_near_i_lpiiq x7.1 x7.2) rfl))))) fun _ => rfl) fun x8 =>
  (t_seq fin_F (fun x9 : (List (Int × Int)) => [some ((eF D.int) a0), some ((eH2 D.int (eL (eP2 D.int D.int))) x7), some (D.int x7.1), some ((eL (eL D.int)) x8), some ((eL (eP2 D.int D.int)) x9), none, none, none, none, none, none, none, none, none, none, none, none, none, none]) (s_set (e := (eL (eP2 D.int D.int))) _ (q_on (a_p rfl (a_0 (rf_chk (n_law_lanes_lli x8) rfl)))) fun _ => rfl) fun x9 =>
  (t_seq fin_F (fun x15 : (List Int) => [some ((eF D.int) a0), some ((eH2 D.int (eL (eP2 D.int D.int))) x7), some (D.int x7.1), some ((eL (eL D.int)) x8), some ((eL (eP2 D.int D.int)) x9), some ((eL D.int) x15), none, none, none, none, none, none, none, none, none, none, none, none, none]) (s_set (e := (eL D.int)) _ (q_on (a_i (q_on (a_p rfl (a_p rfl (a_0 (rf_chk (n_law_cell_fi_i a0 1) rfl))))) fun x13 => (a_i (q_f2 (b_p rfl (b_i (q_f2 (b_i (q_on (a_i (q_f2 (b_p rfl (b_p rfl op_pow))) fun x10 => (a_0 (rf_ok rfl)))) fun x11 => (b_p rfl (op_rep (e := D.int))))) fun x12 => (op_catLL (e := D.int))))) fun x14 => (a_0 (rf_chk (n_law_digits_i_li x13 x14) rfl))))) fun _ => rfl) fun x15 =>
  (t_seqp [some ((eF D.int) a0), some ((eH2 D.int (eL (eP2 D.int D.int))) x7), some (D.int x7.1), some ((eL (eL D.int)) x8), some ((eL (eP2 D.int D.int)) x9), some ((eL D.int) x15), some ((eL D.int) []), none, none, none, none, none, none, none, none, none, none, none, none] (set_p rfl rfl) (t_seq fin_F (fun x31 : (List Int) => [some ((eF D.int) a0), some ((eH2 D.int (eL (eP2 D.int D.int))) x7), some (D.int x7.1), some ((eL (eL D.int)) x8), some ((eL (eP2 D.int D.int)) x9), some ((eL D.int) x15), some ((eL D.int) x31), none, none, none, none, none, none, none, none, none, none, none, none]) (s_for (ex := D.int) (s0 := []) (q_R1 (a_p (evSc (evOn (evA rfl rfl) op_lenL) rfl) (a_0 k_R1))) (fun x16 : (List Int) => [some ((eF D.int) a0), some ((eH2 D.int (eL (eP2 D.int D.int))) x7), some (D.int x7.1), some ((eL (eL D.int)) x8), some ((eL (eP2 D.int D.int)) x9), some ((eL D.int) x15), some ((eL D.int) x16), none, none, none, none, none, none, none, none, none, none, none, none]) (fun (x16 : (List Int)) (x17 : Int) => [some ((eF D.int) a0), some ((eH2 D.int (eL (eP2 D.int D.int))) x7), some (D.int x7.1), some ((eL (eL D.int)) x8), some ((eL (eP2 D.int D.int)) x9), some ((eL D.int) x15), some ((eL D.int) x16), some (D.int x17), none, none, none, none, none, none, none, none, none, none, none]) rfl (fun _ _ => rfl) fun x16 x17 =>
  (t_assoc (t_seq fin_L (fun x22 : Int => [some ((eF D.int) a0), some ((eH2 D.int (eL (eP2 D.int D.int))) x7), some (D.int x7.1), some ((eL (eL D.int)) x8), some ((eL (eP2 D.int D.int)) x9), some ((eL D.int) x15), some ((eL D.int) x16), some (D.int x17), none, none, none, none, some (D.int x22), none, none, none, none, none, none]) (s_set (e := D.int) _ (q_f2 (b_i (q_f2 (b_p rfl (b_i (q_f2 (b_p rfl (b_i (q_f2 (b_i (q_f2 (b_p rfl (b_p rfl op_mul))) fun x18 => (b_p rfl (rf_ok (op_modp (by decide)))))) fun x19 => (rf_ok rfl)))) fun x20 => op_ixL))) fun x21 => (b_p (ev2 rfl rfl (op_modp (by decide))) (rf_ok rfl)))) fun _ => rfl) fun x22 =>
  (t_seq fin_L (fun x29 : (List Int) => [some ((eF D.int) a0), some ((eH2 D.int (eL (eP2 D.int D.int))) x7), some (D.int x7.1), some ((eL (eL D.int)) x8), some ((eL (eP2 D.int D.int)) x9), some ((eL D.int) x15), some ((eL D.int) x29), some (D.int x17), none, none, none, none, some (D.int x22), none, none, none, none, none, none]) (s_appI (e := D.int) (xs := x16) (fun ys : (List Int) => [some ((eF D.int) a0), some ((eH2 D.int (eL (eP2 D.int D.int))) x7), some (D.int x7.1), some ((eL (eL D.int)) x8), some ((eL (eP2 D.int D.int)) x9), some ((eL D.int) x15), some ((eL D.int) ys), some (D.int x17), none, none, none, none, some (D.int x22), none, none, none, none, none, none]) rfl (q_f2 (b_i (q_on (a_p (ev2 rfl (ev2 rfl rfl (op_modp (by decide))) rfl) (a_p (ev2 rfl (ev2 rfl rfl (op_modp (by decide))) rfl) (a_i (q_f2 (b_i (q_f2 (b_i (q_f2 (b_p rfl (b_p rfl op_pow))) fun x23 => (b_p (ev2 rfl (ev2 rfl rfl (op_modp (by decide))) rfl) op_mul))) fun x24 => (b_p (ev2 rfl rfl (op_modp (by decide))) (rf_ok rfl)))) fun x25 => (a_0 (rf_ok rfl)))))) fun x26 => (b_i (q_f2 (b_p rfl (b_p rfl op_ixL))) fun x27 => op_ixL))) fun _ => rfl) fun x29 =>
  (t_next rfl))))) fun x31 =>
  (t_seqp [some ((eF D.int) a0), some ((eH2 D.int (eL (eP2 D.int D.int))) x7), some (D.int x7.1), some ((eL (eL D.int)) x8), some ((eL (eP2 D.int D.int)) x9), some ((eL D.int) x15), some ((eL D.int) x31), none, some ((eDt (kP2 kI kI) D.int) []), none, none, none, none, none, none, none, none, none, none] (set_p rfl rfl) (t_seq fin_F (fun x38 : (List ((Int × Int) × Int)) => [some ((eF D.int) a0), some ((eH2 D.int (eL (eP2 D.int D.int))) x7), some (D.int x7.1), some ((eL (eL D.int)) x8), some ((eL (eP2 D.int D.int)) x9), some ((eL D.int) x15), some ((eL D.int) x31), none, some ((eDt (kP2 kI kI) D.int) x38), none, none, none, none, none, none, none, none, none, none]) (s_for (ex := D.int) (s0 := []) (q_R1 (a_p (evSc (evOn (evA rfl rfl) op_lenL) rfl) (a_0 k_R1))) (fun x32 : (List ((Int × Int) × Int)) => [some ((eF D.int) a0), some ((eH2 D.int (eL (eP2 D.int D.int))) x7), some (D.int x7.1), some ((eL (eL D.int)) x8), some ((eL (eP2 D.int D.int)) x9), some ((eL D.int) x15), some ((eL D.int) x31), none, some ((eDt (kP2 kI kI) D.int) x32), none, none, none, none, none, none, none, none, none, none]) (fun (x32 : (List ((Int × Int) × Int))) (x33 : Int) => [some ((eF D.int) a0), some ((eH2 D.int (eL (eP2 D.int D.int))) x7), some (D.int x7.1), some ((eL (eL D.int)) x8), some ((eL (eP2 D.int D.int)) x9), some ((eL D.int) x15), some ((eL D.int) x31), some (D.int x33), some ((eDt (kP2 kI kI) D.int) x32), none, none, none, none, none, none, none, none, none, none]) rfl (fun _ _ => rfl) fun x32 x33 =>
  (t_seq fin_L (fun x36 : (List ((Int × Int) × Int)) => [some ((eF D.int) a0), some ((eH2 D.int (eL (eP2 D.int D.int))) x7), some (D.int x7.1), some ((eL (eL D.int)) x8), some ((eL (eP2 D.int D.int)) x9), some ((eL D.int) x15), some ((eL D.int) x31), some (D.int x33), some ((eDt (kP2 kI kI) D.int) x36), none, none, none, none, none, none, none, none, none, none]) (s_putT (kd_P2 kd_I kd_I) (inj_kP2 inj_kI inj_kI) (e := D.int) (xs := x32) (fun ys : (List ((Int × Int) × Int)) => [some ((eF D.int) a0), some ((eH2 D.int (eL (eP2 D.int D.int))) x7), some (D.int x7.1), some ((eL (eL D.int)) x8), some ((eL (eP2 D.int D.int)) x9), some ((eL D.int) x15), some ((eL D.int) x31), some (D.int x33), some ((eDt (kP2 kI kI) D.int) ys), none, none, none, none, none, none, none, none, none, none]) rfl (q_f2 (b_p rfl (b_p rfl op_ixL))) (q_f2 (b_p rfl (b_p rfl op_ixL))) fun _ => rfl) fun x36 =>
  (t_next rfl))) fun x38 =>
  (t_seq fin_F (fun x39 : (Int × (List (Int × Int)) × (List (List Int)) × (List (Int × Int))) => [some ((eF D.int) a0), some ((eH2 D.int (eL (eP2 D.int D.int))) x7), some (D.int x7.1), some ((eL (eL D.int)) x8), some ((eL (eP2 D.int D.int)) x9), some ((eL D.int) x15), some ((eL D.int) x31), none, some ((eDt (kP2 kI kI) D.int) x38), some ((eOb4 "Net" "size" "links" "near" "lane_row" D.int (eT (eP2 D.int D.int)) (eT (eT D.int)) (eT (eP2 D.int D.int))) x39), none, none, none, none, none, none, none, none, none]) (s_set (e := (eOb4 "Net" "size" "links" "near" "lane_row" D.int (eT (eP2 D.int D.int)) (eT (eT D.int)) (eT (eP2 D.int D.int)))) _ (q_on (a_p rfl (a_p rfl (a_0 (rf_chk (n_Net_init_i_lpiiq x7.1 x7.2) rfl))))) fun _ => rfl) fun x39 =>
  (t_seq fin_F (fun x40 : ((Int × (List (Int × Int)) × (List (List Int)) × (List (Int × Int))) × (List (List (List Int)))) => [some ((eF D.int) a0), some ((eH2 D.int (eL (eP2 D.int D.int))) x7), some (D.int x7.1), some ((eL (eL D.int)) x8), some ((eL (eP2 D.int D.int)) x9), some ((eL D.int) x15), some ((eL D.int) x31), none, some ((eDt (kP2 kI kI) D.int) x38), some ((eOb4 "Net" "size" "links" "near" "lane_row" D.int (eT (eP2 D.int D.int)) (eT (eT D.int)) (eT (eP2 D.int D.int))) x39), some ((eOb2 "Book" "net" "rows" (eOb4 "Net" "size" "links" "near" "lane_row" D.int (eT (eP2 D.int D.int)) (eT (eT D.int)) (eT (eP2 D.int D.int))) (eT (eT (eT D.int)))) x40), none, none, none, none, none, none, none, none]) (s_set (e := (eOb2 "Book" "net" "rows" (eOb4 "Net" "size" "links" "near" "lane_row" D.int (eT (eP2 D.int D.int)) (eT (eT D.int)) (eT (eP2 D.int D.int))) (eT (eT (eT D.int))))) _ (q_on (a_p rfl (a_p rfl (a_0 (rf_chk (n_priced_book_cNetitpiiqttitpiiqq_li x39 x31) rfl))))) fun _ => rfl) fun x40 =>
  (t_forC (ex := D.int) (e := D.bl) (s0 := ()) (rk := (fun v => v)) fin_F (q_R1 (a_p rfl (a_0 k_R1))) (fun x41 : Unit => [some ((eF D.int) a0), some ((eH2 D.int (eL (eP2 D.int D.int))) x7), some (D.int x7.1), some ((eL (eL D.int)) x8), some ((eL (eP2 D.int D.int)) x9), some ((eL D.int) x15), some ((eL D.int) x31), none, some ((eDt (kP2 kI kI) D.int) x38), some ((eOb4 "Net" "size" "links" "near" "lane_row" D.int (eT (eP2 D.int D.int)) (eT (eT D.int)) (eT (eP2 D.int D.int))) x39), some ((eOb2 "Book" "net" "rows" (eOb4 "Net" "size" "links" "near" "lane_row" D.int (eT (eP2 D.int D.int)) (eT (eT D.int)) (eT (eP2 D.int D.int))) (eT (eT (eT D.int)))) x40), none, none, none, none, none, none, none, none]) (fun (x41 : Unit) (x42 : Int) => [some ((eF D.int) a0), some ((eH2 D.int (eL (eP2 D.int D.int))) x7), some (D.int x7.1), some ((eL (eL D.int)) x8), some ((eL (eP2 D.int D.int)) x9), some ((eL D.int) x15), some ((eL D.int) x31), none, some ((eDt (kP2 kI kI) D.int) x38), some ((eOb4 "Net" "size" "links" "near" "lane_row" D.int (eT (eP2 D.int D.int)) (eT (eT D.int)) (eT (eP2 D.int D.int))) x39), some ((eOb2 "Book" "net" "rows" (eOb4 "Net" "size" "links" "near" "lane_row" D.int (eT (eP2 D.int D.int)) (eT (eT D.int)) (eT (eP2 D.int D.int))) (eT (eT (eT D.int)))) x40), some (D.int x42), none, none, none, none, none, none, none]) rfl (fun _ _ => rfl) (fun x41 x42 =>
  (t_assoc (t_seq fin_L (fun x43 : (List (Option Int)) => [some ((eF D.int) a0), some ((eH2 D.int (eL (eP2 D.int D.int))) x7), some (D.int x7.1), some ((eL (eL D.int)) x8), some ((eL (eP2 D.int D.int)) x9), some ((eL D.int) x15), some ((eL D.int) x31), none, some ((eDt (kP2 kI kI) D.int) x38), some ((eOb4 "Net" "size" "links" "near" "lane_row" D.int (eT (eP2 D.int D.int)) (eT (eT D.int)) (eT (eP2 D.int D.int))) x39), some ((eOb2 "Book" "net" "rows" (eOb4 "Net" "size" "links" "near" "lane_row" D.int (eT (eP2 D.int D.int)) (eT (eT D.int)) (eT (eP2 D.int D.int))) (eT (eT (eT D.int)))) x40), some (D.int x42), none, some ((eT (eO D.int)) x43), none, none, none, none, none]) (s_set (e := (eT (eO D.int))) _ (q_on (a_p rfl (a_p rfl (a_p rfl (a_0 (rf_chk (n_heights_cNetitpiiqttitpiiqq_li_i x39 x31 x42) rfl)))))) fun _ => rfl) fun x43 =>
  (t_assoc (t_ifI fin_L (rOrI (q_Not (b_i (rNx (q_Tr (b_iT (q_on (a_p rfl (a_i (q_on (a_p rfl (a_p rfl (a_p rfl (a_0 (rf_chk (n_law_heights_lli_mpiiqiq_i x8 x38 x42) rfl)))))) fun x44 => (a_0 (rf_chk (n_law_same_toi_loi x43 x44) rfl)))))))) fun _ => rf_ok rfl)) (q_B (b_iB (q_f2 (b_i (q_f2 (b_p rfl (b_p rfl op_ixT))) fun x46 => (b_p rfl (rf_ok (op_ne (e := (eO D.int)) (x := x46) (x' := (some 0)))))))))) (t_retp rfl rfl)
  (t_nextS (t_forC (ex := D.int) (e := D.bl) (s0 := ()) (rk := (fun v => Ctl.ret v)) fin_L (q_R1 (a_p rfl (a_0 k_R1))) (fun x48 : Unit => [some ((eF D.int) a0), some ((eH2 D.int (eL (eP2 D.int D.int))) x7), some (D.int x7.1), some ((eL (eL D.int)) x8), some ((eL (eP2 D.int D.int)) x9), some ((eL D.int) x15), some ((eL D.int) x31), none, some ((eDt (kP2 kI kI) D.int) x38), some ((eOb4 "Net" "size" "links" "near" "lane_row" D.int (eT (eP2 D.int D.int)) (eT (eT D.int)) (eT (eP2 D.int D.int))) x39), some ((eOb2 "Book" "net" "rows" (eOb4 "Net" "size" "links" "near" "lane_row" D.int (eT (eP2 D.int D.int)) (eT (eT D.int)) (eT (eP2 D.int D.int))) (eT (eT (eT D.int)))) x40), some (D.int x42), none, some ((eT (eO D.int)) x43), none, none, none, none, none]) (fun (x48 : Unit) (x49 : Int) => [some ((eF D.int) a0), some ((eH2 D.int (eL (eP2 D.int D.int))) x7), some (D.int x7.1), some ((eL (eL D.int)) x8), some ((eL (eP2 D.int D.int)) x9), some ((eL D.int) x15), some ((eL D.int) x31), none, some ((eDt (kP2 kI kI) D.int) x38), some ((eOb4 "Net" "size" "links" "near" "lane_row" D.int (eT (eP2 D.int D.int)) (eT (eT D.int)) (eT (eP2 D.int D.int))) x39), some ((eOb2 "Book" "net" "rows" (eOb4 "Net" "size" "links" "near" "lane_row" D.int (eT (eP2 D.int D.int)) (eT (eT D.int)) (eT (eP2 D.int D.int))) (eT (eT (eT D.int)))) x40), some (D.int x42), none, some ((eT (eO D.int)) x43), some (D.int x49), none, none, none, none]) rfl (fun _ _ => rfl) (fun x48 x49 =>
  (t_assoc (t_seq fin_L (fun x54 : (List Int) => [some ((eF D.int) a0), some ((eH2 D.int (eL (eP2 D.int D.int))) x7), some (D.int x7.1), some ((eL (eL D.int)) x8), some ((eL (eP2 D.int D.int)) x9), some ((eL D.int) x15), some ((eL D.int) x31), none, some ((eDt (kP2 kI kI) D.int) x38), some ((eOb4 "Net" "size" "links" "near" "lane_row" D.int (eT (eP2 D.int D.int)) (eT (eT D.int)) (eT (eP2 D.int D.int))) x39), some ((eOb2 "Book" "net" "rows" (eOb4 "Net" "size" "links" "near" "lane_row" D.int (eT (eP2 D.int D.int)) (eT (eT D.int)) (eT (eP2 D.int D.int))) (eT (eT (eT D.int)))) x40), some (D.int x42), none, some ((eT (eO D.int)) x43), some (D.int x49), some ((eL D.int) x54), none, none, none]) (s_set (e := (eL D.int)) _ (rf_lc (q_L (b_iL (q := (eL D.int)) (e := D.int) (q_f2 (b_p rfl (b_p rfl op_ixL))) fun _ => rfl)) (fun x50 : Int => [some ((eF D.int) a0), some ((eH2 D.int (eL (eP2 D.int D.int))) x7), some (D.int x7.1), some ((eL (eL D.int)) x8), some ((eL (eP2 D.int D.int)) x9), some ((eL D.int) x15), some ((eL D.int) x31), none, some ((eDt (kP2 kI kI) D.int) x38), some ((eOb4 "Net" "size" "links" "near" "lane_row" D.int (eT (eP2 D.int D.int)) (eT (eT D.int)) (eT (eP2 D.int D.int))) x39), some ((eOb2 "Book" "net" "rows" (eOb4 "Net" "size" "links" "near" "lane_row" D.int (eT (eP2 D.int D.int)) (eT (eT D.int)) (eT (eP2 D.int D.int))) (eT (eT (eT D.int)))) x40), some (D.int x42), none, some ((eT (eO D.int)) x43), some (D.int x49), none, none, some (D.int x50), none]) (fun _ => rfl) (fun x50 => (rf_ok (v := true) rfl)) (fun x50 => (q_f2 (b_i (q_f2 (b_p rfl (b_p rfl (op_dgetT (kd_P2 kd_I kd_I) (inj_kP2 inj_kI inj_kI))))) fun x51 => (b_i (rf_unOI (q_f2 (b_p rfl (b_p rfl op_ixT)))) fun x52 => (rf_ok rfl)))))) fun _ => rfl) fun x54 =>
  (t_assoc (t_ifI fin_L (q_B (b_iB (q_f2 (b_i (rSc (q_on (a_i (rf_lcp (it_L (e := D.int) (xs := x54) rfl) (fun x55 : Int => [some ((eF D.int) a0), some ((eH2 D.int (eL (eP2 D.int D.int))) x7), some (D.int x7.1), some ((eL (eL D.int)) x8), some ((eL (eP2 D.int D.int)) x9), some ((eL D.int) x15), some ((eL D.int) x31), none, some ((eDt (kP2 kI kI) D.int) x38), some ((eOb4 "Net" "size" "links" "near" "lane_row" D.int (eT (eP2 D.int D.int)) (eT (eT D.int)) (eT (eP2 D.int D.int))) x39), some ((eOb2 "Book" "net" "rows" (eOb4 "Net" "size" "links" "near" "lane_row" D.int (eT (eP2 D.int D.int)) (eT (eT D.int)) (eT (eP2 D.int D.int))) (eT (eT (eT D.int)))) x40), some (D.int x42), none, some ((eT (eO D.int)) x43), some (D.int x49), some ((eL D.int) x54), none, none, some (D.int x55)]) (fun _ => rfl) (fun x55 => (q_B (b_iB (q_f2 (b_p rfl (b_i (rf_unOI (q_f2 (b_p rfl (b_p rfl op_ixT)))) fun x56 => (rf_ok rfl))))))) (fun x55 => (rf_ok (e := D.int) rfl))) fun x57 => (a_0 (rf_ok op_lenL)))) fun _ => rfl) fun x58 => (b_p rfl (rf_ok rfl)))))) (t_retp rfl rfl)
  (t_nextS (t_assoc (t_ifI fin_L (rAnd (evB (ev2 rfl rfl (op_ne (e := D.int) (x := x49) (x' := x42)))) (rNx (q_B (b_iB (q_f2 (b_i (rf_unOI (q_f2 (b_p rfl (b_p rfl op_ixT)))) fun x59 => (b_p rfl (rf_ok (op_nmemL (e := D.int) (x := x59) (xs := x54)))))))))) (t_retp rfl rfl)
  (t_nextS (t_assoc (t_seq fin_L (fun x60 : (List Int) => [some ((eF D.int) a0), some ((eH2 D.int (eL (eP2 D.int D.int))) x7), some (D.int x7.1), some ((eL (eL D.int)) x8), some ((eL (eP2 D.int D.int)) x9), some ((eL D.int) x15), some ((eL D.int) x31), none, some ((eDt (kP2 kI kI) D.int) x38), some ((eOb4 "Net" "size" "links" "near" "lane_row" D.int (eT (eP2 D.int D.int)) (eT (eT D.int)) (eT (eP2 D.int D.int))) x39), some ((eOb2 "Book" "net" "rows" (eOb4 "Net" "size" "links" "near" "lane_row" D.int (eT (eP2 D.int D.int)) (eT (eT D.int)) (eT (eP2 D.int D.int))) (eT (eT (eT D.int)))) x40), some (D.int x42), none, some ((eT (eO D.int)) x43), some (D.int x49), some ((eL D.int) x54), some ((eT D.int) x60), none, none]) (s_set (e := (eT D.int)) _ (q_meth rfl (by first | rfl | decide) (a_p rfl (a_p rfl (a_0 (rf_chk (n_Book_call_cBookcNetitpiiqttitpiiqqtttiq_i_i x40 x49 x42) rfl))))) fun _ => rfl) fun x60 =>
  (t_assoc (t_ifI fin_L (rOrF (evNot (evTr (ev1 rfl (isi_of isTy_tuple_tup)) rfl)) (rOr (evB (ev2 (evOn (evA rfl rfl) op_lenT) rfl rfl)) (rOrI (q_B (b_iB (q_f2 (b_i (q_f2 (b_p rfl (b_p rfl op_ixT))) fun x61 => (b_p rfl (rf_ok (op_ne (e := D.int) (x := x61) (x' := x49)))))))) (q_B (b_iB (q_f2 (b_i (q_f2 (b_p rfl (b_p rfl op_ixT))) fun x62 => (b_p rfl (rf_ok (op_ne (e := D.int) (x := x62) (x' := x42))))))))))) (t_retp rfl rfl)
  (t_nextS (t_assoc (t_ifI fin_L (q_B (b_iB (q_f2 (b_i (q_on (a_i (rf_lc (q_R1 (a_p (ev2 (evOn (evA rfl rfl) op_lenT) rfl rfl) (a_0 k_R1))) (fun x64 : Int => [some ((eF D.int) a0), some ((eH2 D.int (eL (eP2 D.int D.int))) x7), some (D.int x7.1), some ((eL (eL D.int)) x8), some ((eL (eP2 D.int D.int)) x9), some ((eL D.int) x15), some ((eL D.int) x31), some (D.int x64), some ((eDt (kP2 kI kI) D.int) x38), some ((eOb4 "Net" "size" "links" "near" "lane_row" D.int (eT (eP2 D.int D.int)) (eT (eT D.int)) (eT (eP2 D.int D.int))) x39), some ((eOb2 "Book" "net" "rows" (eOb4 "Net" "size" "links" "near" "lane_row" D.int (eT (eP2 D.int D.int)) (eT (eT D.int)) (eT (eP2 D.int D.int))) (eT (eT (eT D.int)))) x40), some (D.int x42), none, some ((eT (eO D.int)) x43), some (D.int x49), some ((eL D.int) x54), some ((eT D.int) x60), none, none]) (fun _ => rfl) (fun x64 => (rNx (q_B (b_iB (q_f2 (b_i (q_on (a_i (q_f2 (b_p rfl (b_p rfl op_ixT))) fun x65 => (a_i (q_f2 (b_p rfl (b_p rfl op_ixT))) fun x66 => (a_0 (rf_ok rfl))))) fun x67 => (b_p rfl (rf_ok (op_dhasTN (kd_P2 kd_I kd_I) (inj_kP2 inj_kI inj_kI)))))))))) (fun x64 => (rf_ok (e := D.int) rfl))) fun x69 => (a_0 (rf_ok op_lenL)))) fun x70 => (b_p rfl (rf_ok rfl)))))) (t_retp rfl rfl)
  (t_nextS (t_ifI fin_L (q_B (b_iB (q_f2 (b_i (q_on (a_i (rf_lc (q_R1 (a_p (ev2 (evOn (evA rfl rfl) op_lenT) rfl rfl) (a_0 k_R1))) (fun x71 : Int => [some ((eF D.int) a0), some ((eH2 D.int (eL (eP2 D.int D.int))) x7), some (D.int x7.1), some ((eL (eL D.int)) x8), some ((eL (eP2 D.int D.int)) x9), some ((eL D.int) x15), some ((eL D.int) x31), some (D.int x71), some ((eDt (kP2 kI kI) D.int) x38), some ((eOb4 "Net" "size" "links" "near" "lane_row" D.int (eT (eP2 D.int D.int)) (eT (eT D.int)) (eT (eP2 D.int D.int))) x39), some ((eOb2 "Book" "net" "rows" (eOb4 "Net" "size" "links" "near" "lane_row" D.int (eT (eP2 D.int D.int)) (eT (eT D.int)) (eT (eP2 D.int D.int))) (eT (eT (eT D.int)))) x40), some (D.int x42), none, some ((eT (eO D.int)) x43), some (D.int x49), some ((eL D.int) x54), some ((eT D.int) x60), none, none]) (fun _ => rfl) (fun x71 => (rf_ok (v := true) rfl)) (fun x71 => (q_f2 (b_p rfl (b_i (q_on (a_i (q_f2 (b_p rfl (b_p rfl op_ixT))) fun x72 => (a_i (q_f2 (b_p rfl (b_p rfl op_ixT))) fun x73 => (a_0 (rf_ok rfl))))) fun x74 => (op_dgetT (kd_P2 kd_I kd_I) (inj_kP2 inj_kI inj_kI))))))) fun x76 => (a_0 (rf_ok op_sumL)))) fun x77 => (b_i (q_f2 (b_p rfl (b_p rfl op_ixT))) fun x78 => (rf_ok (op_ne (e := (eO D.int)) (x := (some x77)) (x' := x78)))))))) (t_retp rfl rfl)
  (t_nextS (t_next rfl)))))))))))))))))))) (fun x84 =>
  (t_next rfl)) fun _ => rfl))))))) (fun x87 =>
  (t_end (t_retF (rf_ok (e := D.bl) rfl)))) fun _ => rfl)))))))))))))
end Kx
namespace Kx
open PySem PySem.Spec L2 Da
def top (i : Nat) : Stmt := PySem.Challenge.pw_nobadday_k15_heights.main.body.getD i (.Pass ⟨0, 0, 0, 0⟩)
abbrev s_law_net : Stmt := top 41
abbrev s_law_near : Stmt := top 37
abbrev s_law_lanes : Stmt := top 38
abbrev s_law_digits : Stmt := top 36
abbrev s_is_number : Stmt := top 12
abbrev s_is_link : Stmt := top 28
abbrev s_checked_links : Stmt := top 29
abbrev s_near_nodes : Stmt := top 30
abbrev s_lanes_of : Stmt := top 31
abbrev s_reached : Stmt := top 27
abbrev s_frozen : Stmt := top 11
abbrev s_Net_init : Stmt := inCls (top 32) 0
abbrev s_lane_prices : Stmt := top 20
abbrev s_route_lanes : Stmt := top 14
abbrev s_is_route : Stmt := top 15
abbrev s_checked_routes : Stmt := top 17
abbrev s_Book_init : Stmt := inCls (top 18) 0
abbrev s_goal_heights : Stmt := top 21
abbrev s_descent : Stmt := top 23
abbrev s_priced_book : Stmt := top 24
abbrev s_law_cell : Stmt := top 35
abbrev s_heights : Stmt := top 22
abbrev s_Book_call : Stmt := inCls (top 18) 1
abbrev s_law_whole : Stmt := top 34
abbrev s_law_same : Stmt := top 40
abbrev s_law_heights : Stmt := top 39
abbrev s_law : Stmt := top 42
abbrev s_BadLink_init : Stmt := inCls (top 5) 0
abbrev s_BadSize_init : Stmt := inCls (top 4) 0
abbrev s_NotConnected_init : Stmt := inCls (top 6) 0
abbrev s_BadCount_init : Stmt := inCls (top 8) 0
abbrev s_BadPrice_init : Stmt := inCls (top 9) 0
abbrev s_BadRoute_init : Stmt := inCls (top 7) 0
/-- what stands behind the top -/
structure Txt (K : PySem.W.Frag) (mg : Str → Option Value) : Prop where
  d_law_net : DefAt K mg "_law_net" "_law_net" s_law_net ["row", "upto"]
  d_law_near : DefAt K mg "_law_near" "_law_near" s_law_near ["size", "links"]
  d_law_lanes : DefAt K mg "_law_lanes" "_law_lanes" s_law_lanes ["near"]
  d_law_digits : DefAt K mg "_law_digits" "_law_digits" s_law_digits ["cell", "sizes"]
  d_is_number : DefAt K mg "is_number" "is_number" s_is_number ["value"]
  d_is_link : DefAt K mg "is_link" "is_link" s_is_link ["size", "link"]
  d_checked_links : DefAt K mg "checked_links" "checked_links" s_checked_links ["size", "links"]
  d_near_nodes : DefAt K mg "near_nodes" "near_nodes" s_near_nodes ["size", "links"]
  d_lanes_of : DefAt K mg "lanes_of" "lanes_of" s_lanes_of ["near"]
  d_reached : DefAt K mg "reached" "reached" s_reached ["size", "links", "start"]
  d_frozen : DefAt K mg "frozen" "frozen" s_frozen ["value"]
  d_Net_init : InitAt K mg "Net" "Net.__init__" s_Net_init ["self", "size", "links"]
  d_lane_prices : DefAt K mg "lane_prices" "lane_prices" s_lane_prices ["net", "prices"]
  d_route_lanes : DefAt K mg "route_lanes" "route_lanes" s_route_lanes ["route"]
  d_is_route : DefAt K mg "is_route" "is_route" s_is_route ["net", "value", "sender", "goal"]
  d_checked_routes : DefAt K mg "checked_routes" "checked_routes" s_checked_routes ["net", "rows"]
  d_Book_init : InitAt K mg "Book" "Book.__init__" s_Book_init ["self", "net", "rows"]
  d_goal_heights : DefAt K mg "goal_heights" "goal_heights" s_goal_heights ["net", "price", "goal"]
  d_descent : DefAt K mg "descent" "descent" s_descent ["net", "price", "least", "sender"]
  d_priced_book : DefAt K mg "priced_book" "priced_book" s_priced_book ["net", "prices"]
  d_law_cell : DefAt K mg "_law_cell" "_law_cell" s_law_cell ["script", "k"]
  d_heights : DefAt K mg "heights" "heights" s_heights ["net", "prices", "goal"]
  d_Book_call : MethAt K mg "Book" "__call__" "Book.__call__" s_Book_call ["self", "u", "v"]
  d_law_whole : DefAt K mg "_law_whole" "_law_whole" s_law_whole ["value"]
  d_law_same : DefAt K mg "_law_same" "_law_same" s_law_same ["value", "due"]
  d_law_heights : DefAt K mg "_law_heights" "_law_heights" s_law_heights ["near", "price", "goal"]
  f_Book_net : FldAt K mg "Book" "net"
  f_Book_rows : FldAt K mg "Book" "rows"
  f_Net_lane_row : FldAt K mg "Net" "lane_row"
  f_Net_links : FldAt K mg "Net" "links"
  f_Net_near : FldAt K mg "Net" "near"
  f_Net_size : FldAt K mg "Net" "size"
  g_heappop : mg "heappop" = some (.builtin "_heapq.heappop")
  g_heappush : mg "heappush" = some (.builtin "_heapq.heappush")
  e_BadLink : ErrAt K mg "BadLink" "BadLink.__init__" s_BadLink_init ["self", "index"] ["index"]
  e_BadSize : ErrAt K mg "BadSize" "BadSize.__init__" s_BadSize_init ["self", "size"] ["size"]
  e_NotConnected : ErrAt K mg "NotConnected" "NotConnected.__init__" s_NotConnected_init ["self", "node"] ["node"]
  e_BadCount : ErrAt K mg "BadCount" "BadCount.__init__" s_BadCount_init ["self", "count"] ["count"]
  e_BadPrice : ErrAt K mg "BadPrice" "BadPrice.__init__" s_BadPrice_init ["self", "index"] ["index"]
  e_BadRoute : ErrAt K mg "BadRoute" "BadRoute.__init__" s_BadRoute_init ["self", "sender", "goal"] ["sender", "goal"]
  c_MOST_NODES : GlobI mg "MOST_NODES" 24
  z_all : mg "all" = none
  z_bool : mg "bool" = none
  z_enumerate : mg "enumerate" = none
  z_int : mg "int" = none
  z_isinstance : mg "isinstance" = none
  z_len : mg "len" = none
  z_list : mg "list" = none
  z_max : mg "max" = none
  z_min : mg "min" = none
  z_range : mg "range" = none
  z_set : mg "set" = none
  z_sorted : mg "sorted" = none
  z_str : mg "str" = none
  z_sum : mg "sum" = none
  z_tuple : mg "tuple" = none
  z_zip : mg "zip" = none
theorem sc_BadLink_init : FnScope ["self", "index"] ["self", "index"] (defScope s_BadLink_init) := ⟨rfl, rfl, rfl, by decide +kernel, rfl, by decide +kernel, by decide +kernel⟩
theorem oe_BadLink {P : Program} {w : World} {K : PySem.W.Frag} {mg : Str → Option Value} {base : Heap} (T : Txt K mg) : ErrN P w K mg base "BadLink" 1 ["index"] :=
  errN_of (fj := [("index", 1)]) T.e_BadLink sc_BadLink_init rfl (by decide) rfl rfl (by decide) (by decide) fun f cdv A outer s H E =>
    (pss_cons (ps_ost (pe_var (i := 0) rfl (by first | exact Or.inl rfl | exact Or.inr (Or.inl rfl) | exact Or.inr (Or.inr rfl))) (pe_var (i := 1) rfl (by first | exact Or.inl rfl | exact Or.inr (Or.inl rfl) | exact Or.inr (Or.inr rfl)))) pss_nil)
theorem sc_BadSize_init : FnScope ["self", "size"] ["self", "size"] (defScope s_BadSize_init) := ⟨rfl, rfl, rfl, by decide +kernel, rfl, by decide +kernel, by decide +kernel⟩
theorem oe_BadSize {P : Program} {w : World} {K : PySem.W.Frag} {mg : Str → Option Value} {base : Heap} (T : Txt K mg) : ErrN P w K mg base "BadSize" 1 ["size"] :=
  errN_of (fj := [("size", 1)]) T.e_BadSize sc_BadSize_init rfl (by decide) rfl rfl (by decide) (by decide) fun f cdv A outer s H E =>
    (pss_cons (ps_ost (pe_var (i := 0) rfl (by first | exact Or.inl rfl | exact Or.inr (Or.inl rfl) | exact Or.inr (Or.inr rfl))) (pe_var (i := 1) rfl (by first | exact Or.inl rfl | exact Or.inr (Or.inl rfl) | exact Or.inr (Or.inr rfl)))) pss_nil)
theorem sc_NotConnected_init : FnScope ["self", "node"] ["self", "node"] (defScope s_NotConnected_init) := ⟨rfl, rfl, rfl, by decide +kernel, rfl, by decide +kernel, by decide +kernel⟩
theorem oe_NotConnected {P : Program} {w : World} {K : PySem.W.Frag} {mg : Str → Option Value} {base : Heap} (T : Txt K mg) : ErrN P w K mg base "NotConnected" 1 ["node"] :=
  errN_of (fj := [("node", 1)]) T.e_NotConnected sc_NotConnected_init rfl (by decide) rfl rfl (by decide) (by decide) fun f cdv A outer s H E =>
    (pss_cons (ps_ost (pe_var (i := 0) rfl (by first | exact Or.inl rfl | exact Or.inr (Or.inl rfl) | exact Or.inr (Or.inr rfl))) (pe_var (i := 1) rfl (by first | exact Or.inl rfl | exact Or.inr (Or.inl rfl) | exact Or.inr (Or.inr rfl)))) pss_nil)
theorem sc_BadCount_init : FnScope ["self", "count"] ["self", "count"] (defScope s_BadCount_init) := ⟨rfl, rfl, rfl, by decide +kernel, rfl, by decide +kernel, by decide +kernel⟩
theorem oe_BadCount {P : Program} {w : World} {K : PySem.W.Frag} {mg : Str → Option Value} {base : Heap} (T : Txt K mg) : ErrN P w K mg base "BadCount" 1 ["count"] :=
  errN_of (fj := [("count", 1)]) T.e_BadCount sc_BadCount_init rfl (by decide) rfl rfl (by decide) (by decide) fun f cdv A outer s H E =>
    (pss_cons (ps_ost (pe_var (i := 0) rfl (by first | exact Or.inl rfl | exact Or.inr (Or.inl rfl) | exact Or.inr (Or.inr rfl))) (pe_var (i := 1) rfl (by first | exact Or.inl rfl | exact Or.inr (Or.inl rfl) | exact Or.inr (Or.inr rfl)))) pss_nil)
theorem sc_BadPrice_init : FnScope ["self", "index"] ["self", "index"] (defScope s_BadPrice_init) := ⟨rfl, rfl, rfl, by decide +kernel, rfl, by decide +kernel, by decide +kernel⟩
theorem oe_BadPrice {P : Program} {w : World} {K : PySem.W.Frag} {mg : Str → Option Value} {base : Heap} (T : Txt K mg) : ErrN P w K mg base "BadPrice" 1 ["index"] :=
  errN_of (fj := [("index", 1)]) T.e_BadPrice sc_BadPrice_init rfl (by decide) rfl rfl (by decide) (by decide) fun f cdv A outer s H E =>
    (pss_cons (ps_ost (pe_var (i := 0) rfl (by first | exact Or.inl rfl | exact Or.inr (Or.inl rfl) | exact Or.inr (Or.inr rfl))) (pe_var (i := 1) rfl (by first | exact Or.inl rfl | exact Or.inr (Or.inl rfl) | exact Or.inr (Or.inr rfl)))) pss_nil)
theorem sc_BadRoute_init : FnScope ["self", "sender", "goal"] ["self", "sender", "goal"] (defScope s_BadRoute_init) := ⟨rfl, rfl, rfl, by decide +kernel, rfl, by decide +kernel, by decide +kernel⟩
theorem oe_BadRoute {P : Program} {w : World} {K : PySem.W.Frag} {mg : Str → Option Value} {base : Heap} (T : Txt K mg) : ErrN P w K mg base "BadRoute" 1 ["sender", "goal"] :=
  errN_of (fj := [("sender", 1), ("goal", 2)]) T.e_BadRoute sc_BadRoute_init rfl (by decide) rfl rfl (by decide) (by decide) fun f cdv A outer s H E =>
    (pss_cons (ps_ost (pe_var (i := 0) rfl (by first | exact Or.inl rfl | exact Or.inr (Or.inl rfl) | exact Or.inr (Or.inr rfl))) (pe_var (i := 1) rfl (by first | exact Or.inl rfl | exact Or.inr (Or.inl rfl) | exact Or.inr (Or.inr rfl)))) (pss_cons (ps_ost (pe_var (i := 0) rfl (by first | exact Or.inl rfl | exact Or.inr (Or.inl rfl) | exact Or.inr (Or.inr rfl))) (pe_var (i := 2) rfl (by first | exact Or.inl rfl | exact Or.inr (Or.inl rfl) | exact Or.inr (Or.inr rfl)))) pss_nil))
theorem sc_law_net : FnScope ["row", "upto", "size", "left", "names", "k", "links", "a", "b"] ["row", "upto"] (defScope s_law_net) := ⟨rfl, rfl, rfl, by decide +kernel, rfl, by decide +kernel, by decide +kernel⟩
theorem ok_law_net {P : Program} {w : World} {K : PySem.W.Frag} {mg : Str → Option Value} {base : Heap} (T : Txt K mg) : Keeps P w K mg base "_law_net" 1 ["row", "upto"] 2 .ow m_law_net :=
  keeps_of T.d_law_net sc_law_net (by decide) fun f cdv A outer s H E hr =>
    (js_cons (js_set 2 (je_min2 T.z_min (ja_cons (je_var 1) (ja_cons (je_item (je_share (je_lst (md := .ow) (ja_cons je_int (ja_cons je_int (ja_cons je_int (ja_cons je_int (ja_cons je_int (ja_cons je_int (ja_cons je_int (ja_cons je_int ja_nil)))))))))) (je_item (je_var 0) je_int)) ja_nil))) sc_law_net.nd)
    (js_cons (js_setLc 3 sc_law_net [("k", 5)] (ji_range1 (ja_cons (je_var 2) ja_nil) T.z_range) (fun _ _ _ _ _ => (jg_name 5 sc_law_net.nd)) (fun _ _ _ _ _ => jts_nil) (fun _ _ _ _ _ => (je_var 5)))
    (js_cons (js_set 4 (je_lst (md := .ow) ja_nil) sc_law_net.nd)
    (js_cons (js_for (ji_range2 (ja_cons je_int (ja_cons (je_var 2) ja_nil)) T.z_range) (jg_name 5 sc_law_net.nd) (jss_fgt [5] (js_one (js_appX 4 (jx_pop 3 (je_mod (je_div (je_int_ T.z_int (ja_cons (je_item (je_var 0) (je_var 5)) ja_nil)) (je_var 5)) (je_borrow (m1 := [.sh, .sh, .sh, .sh, .sh, .sh, .sh, .sh, .sh]) (je_len T.z_len (ja_cons (je_var 3) ja_nil)))))))) (passes_of rfl))
    (js_cons (js_weak1 (m := [.sh, .sh, .sh, .ow, .ow, .sh, .sh, .sh, .sh]) (m1 := [.sh, .sh, .sh, .ow, .sh, .sh, .sh, .sh, .sh]) (js_weak1 (m := [.sh, .sh, .sh, .ow, .sh, .sh, .sh, .sh, .sh]) (m1 := [.sh, .sh, .sh, .sh, .sh, .sh, .sh, .sh, .sh]) (js_set 4 (je_addL (je_var 4) (je_var 3)) sc_law_net.nd)))
    (js_cons (js_set 6 (je_lst (md := .ow) ja_nil) sc_law_net.nd)
    (js_cons (js_for (ji_range2 (ja_cons je_int (ja_cons (je_var 2) ja_nil)) T.z_range) (jg_name 5 sc_law_net.nd) (jss_fgt [5, 7] (js_cons (js_set 7 (je_itemO 4 (je_mod (je_int_ T.z_int (ja_cons (je_item (je_var 0) (je_var 5)) ja_nil)) (je_var 5))) sc_law_net.nd)
    (js_one (js_app 6 (je_tup (ja_cons (je_min2 T.z_min (ja_cons (je_var 7) (ja_cons (je_itemO 4 (je_var 5)) ja_nil))) (ja_cons (je_max2 T.z_max (ja_cons (je_var 7) (ja_cons (je_itemO 4 (je_var 5)) ja_nil))) ja_nil))))))) (passes_of rfl))
    (js_cons (js_for (ji_range1 (ja_cons je_int ja_nil) T.z_range) (jg_name 5 sc_law_net.nd) (jss_fgt [5, 7, 8] (js_cons (js_set 7 (je_mod (je_int_ T.z_int (ja_cons (je_item (je_var 0) (je_add je_int (je_mulI je_int (je_var 5)))) ja_nil)) (je_var 2)) sc_law_net.nd)
    (js_cons (js_set 8 (je_mod (je_int_ T.z_int (ja_cons (je_item (je_var 0) (je_add je_int (je_mulI je_int (je_var 5)))) ja_nil)) (je_var 2)) sc_law_net.nd)
    (js_one (js_fgt [] (js_if (JW.jt (jw_and (jt_gt (je_item (je_var 0) (je_add je_int (je_mulI je_int (je_var 5)))) je_int) (jw_and (jt_ne hr.u (je_var 7) (je_var 8)) (jw_and1 (jt_borrow (m1 := [.sh, .sh, .sh, .sh, .sh, .sh, .sh, .sh, .sh]) (jt_notIn hr.u (je_tup (ja_cons (je_min2 T.z_min (ja_cons (je_var 7) (ja_cons (je_var 8) ja_nil))) (ja_cons (je_max2 T.z_max (ja_cons (je_var 7) (ja_cons (je_var 8) ja_nil))) ja_nil))) (je_var 6))))))) (js_one (js_app 6 (je_tup (ja_cons (je_min2 T.z_min (ja_cons (je_var 7) (ja_cons (je_var 8) ja_nil))) (ja_cons (je_max2 T.z_max (ja_cons (je_var 7) (ja_cons (je_var 8) ja_nil))) ja_nil))))) js_nil)))))) (passes_of rfl))
    (js_one (js_weak1 (m := [.sh, .sh, .sh, .sh, .ow, .sh, .ow, .sh, .sh]) (m1 := [.sh, .sh, .sh, .sh, .ow, .sh, .sh, .sh, .sh]) (js_ret (je_lst (md := .ow) (ja_cons (je_var 2) (ja_cons (je_share (je_sorted hr.u T.z_sorted (ja_cons (je_var 6) ja_nil))) ja_nil))))))))))))))
theorem sc_law_near : FnScope ["size", "links", "near", "link", "k", "row"] ["size", "links"] (defScope s_law_near) := ⟨rfl, rfl, rfl, by decide +kernel, rfl, by decide +kernel, by decide +kernel⟩
theorem ok_law_near {P : Program} {w : World} {K : PySem.W.Frag} {mg : Str → Option Value} {base : Heap} (T : Txt K mg) : Keeps P w K mg base "_law_near" 1 ["size", "links"] 2 .ow m_law_near :=
  keeps_of T.d_law_near sc_law_near (by decide) fun f cdv A outer s H E hr =>
    (js_cons (js_setLcT 1 2 sc_law_near [("k", 4)] (ji_range1 (ja_cons (je_var 0) ja_nil) T.z_range) (fun _ _ _ _ _ => (jg_name 4 sc_law_near.nd)) (fun _ _ _ _ _ => jts_nil) (fun _ _ _ _ _ => (je_lstT 0)))
    (js_cons (js_for (ji_seq (je_var 1)) (jg_name 3 sc_law_near.nd) (jss_fgt [3] (js_cons (js_app2T 0 2 (je_item (je_var 3) je_int) (je_item (je_var 3) je_int))
    (js_one (js_app2T 0 2 (je_item (je_var 3) je_int) (je_item (je_var 3) je_int))))) (passes_of rfl))
    (js_one (js_weak1 (m := [.sh, .sh, .tr 2 none none, .sh, .sh, .sh]) (m1 := [.sh, .sh, .sh, .sh, .sh, .sh]) (js_ret (je_lc sc_law_near [("row", 5)] (ji_seq (je_var 2)) (fun _ _ _ _ _ => (jg_name 5 sc_law_near.nd)) (fun _ _ _ _ _ => jts_nil) (fun _ _ _ _ _ => (je_share (je_sorted hr.u T.z_sorted (ja_cons (je_var 5) ja_nil))))))))))
theorem sc_law_lanes : FnScope ["near", "lanes", "a", "b"] ["near"] (defScope s_law_lanes) := ⟨rfl, rfl, rfl, by decide +kernel, rfl, by decide +kernel, by decide +kernel⟩
theorem ok_law_lanes {P : Program} {w : World} {K : PySem.W.Frag} {mg : Str → Option Value} {base : Heap} (T : Txt K mg) : Keeps P w K mg base "_law_lanes" 1 ["near"] 1 .ow m_law_lanes :=
  keeps_of T.d_law_lanes sc_law_lanes (by decide) fun f cdv A outer s H E hr =>
    (js_cons (js_set 1 (je_lst (md := .ow) ja_nil) sc_law_lanes.nd)
    (js_cons (js_for (ji_range1 (ja_cons (je_len T.z_len (ja_cons (je_var 0) ja_nil)) ja_nil) T.z_range) (jg_name 2 sc_law_lanes.nd) (jss_fgt [2, 3] (js_one (js_for (ji_seq (je_item (je_var 0) (je_var 2))) (jg_name 3 sc_law_lanes.nd) (jss_fgt [3] (js_one (js_app 1 (je_tup (ja_cons (je_var 2) (ja_cons (je_var 3) ja_nil)))))) (passes_of rfl)))) (passes_of rfl))
    (js_one (js_retV 1))))
theorem sc_law_digits : FnScope ["cell", "sizes", "row", "rest", "seed", "k", "size", "twice"] ["cell", "sizes"] (defScope s_law_digits) := ⟨rfl, rfl, rfl, by decide +kernel, rfl, by decide +kernel, by decide +kernel⟩
theorem ok_law_digits {P : Program} {w : World} {K : PySem.W.Frag} {mg : Str → Option Value} {base : Heap} (T : Txt K mg) : Keeps P w K mg base "_law_digits" 1 ["cell", "sizes"] 2 .ow m_law_digits :=
  keeps_of T.d_law_digits sc_law_digits (by decide) fun f cdv A outer s H E hr =>
    (js_cons (js_set 2 (je_lst (md := .ow) ja_nil) sc_law_digits.nd)
    (js_cons (js_set 3 (je_int_ T.z_int (ja_cons (je_var 0) ja_nil)) sc_law_digits.nd)
    (js_cons (js_if (jt_ge (je_var 3) (je_pow je_int je_int)) (js_cons (js_set 3 (je_sub (je_var 3) (je_pow je_int je_int)) sc_law_digits.nd)
    (js_cons (js_for (ji_seq (je_var 1)) (jg_name 6 sc_law_digits.nd) (jss_fgt [6] (js_cons (js_app 2 (je_mod (je_int_ T.z_int (ja_cons (je_var 3) ja_nil)) (je_var 6)))
    (js_one (js_set 3 (je_div (je_int_ T.z_int (ja_cons (je_var 3) ja_nil)) (je_var 6)) sc_law_digits.nd)))) (passes_of rfl))
    (js_one (js_retV 2)))) js_nil)
    (js_cons (js_set 4 (je_mod (je_int_ T.z_int (ja_cons (je_var 3) ja_nil)) je_int) sc_law_digits.nd)
    (js_cons (js_for (ji_range1 (ja_cons (je_len T.z_len (ja_cons (je_var 1) ja_nil)) ja_nil) T.z_range) (jg_name 5 sc_law_digits.nd) (jss_fgt [5, 7] (js_cons (js_set 4 (je_mod (je_int_ T.z_int (ja_cons (je_add (je_add (je_mulI (je_var 4) je_int) (je_mulI je_int (je_var 5))) je_int) ja_nil)) je_int) sc_law_digits.nd)
    (js_cons (js_set 7 (je_mod (je_int_ T.z_int (ja_cons (je_mulI (je_var 4) (je_add (je_div (je_var 4) je_int) je_int)) ja_nil)) je_int) sc_law_digits.nd)
    (js_one (js_app 2 (je_mod (je_div (je_var 7) je_int) (je_item (je_var 1) (je_var 5)))))))) (passes_of rfl))
    (js_one (js_retV 2)))))))
theorem sc_is_number : FnScope ["value"] ["value"] (defScope s_is_number) := ⟨rfl, rfl, rfl, by decide +kernel, rfl, by decide +kernel, by decide +kernel⟩
theorem ok_is_number {P : Program} {w : World} {K : PySem.W.Frag} {mg : Str → Option Value} {base : Heap} (T : Txt K mg) : Keeps P w K mg base "is_number" 1 ["value"] 1 .sh m_is_number :=
  keeps_of T.d_is_number sc_is_number (by decide) fun f cdv A outer s H E hr =>
    (js_one (js_ret (je_and (je_isi "int" T.z_isinstance T.z_int (je_var 0)) (je_last (je_not (je_isi "bool" T.z_isinstance T.z_bool (je_var 0)))))))
theorem sc_is_link : FnScope ["size", "link", "node"] ["size", "link"] (defScope s_is_link) := ⟨rfl, rfl, rfl, by decide +kernel, rfl, by decide +kernel, by decide +kernel⟩
theorem ok_is_link {P : Program} {w : World} {K : PySem.W.Frag} {mg : Str → Option Value} {base : Heap} (T : Txt K mg) : Keeps P w K mg base "is_link" 2 ["size", "link"] 2 .sh m_is_link :=
  keeps_of T.d_is_link sc_is_link (by decide) fun f cdv A outer s H E hr =>
    (js_cons (js_if (JW.jt (jw_or (jt_ne hr.u (je_len T.z_len (ja_cons (je_var 1) ja_nil)) je_int) (jw_or1 (jt_eq hr.u (je_item (je_var 1) je_int) (je_item (je_var 1) je_int))))) (js_one (js_ret je_bl)) js_nil)
    (js_one (js_ret (je_all T.z_all (ja_cons (je_share (je_lc sc_is_link [("node", 2)] (ji_seq (je_var 1)) (fun _ _ _ _ _ => (jg_name 2 sc_is_link.nd)) (fun _ _ _ _ _ => jts_nil) (fun _ _ _ _ _ => (je_and (je_call (ok_is_number T) (hr.mono (by decide)) takesF (ja_cons (je_var 2) ja_nil)) (je_last (je_chain op_le op_lt opd_P opd_P je_int (je_var 2) (je_var 0))))))) ja_nil)))))
theorem sc_checked_links : FnScope ["size", "links", "index", "link", "a", "b"] ["size", "links"] (defScope s_checked_links) := ⟨rfl, rfl, rfl, by decide +kernel, rfl, by decide +kernel, by decide +kernel⟩
theorem ok_checked_links {P : Program} {w : World} {K : PySem.W.Frag} {mg : Str → Option Value} {base : Heap} (T : Txt K mg) : Keeps P w K mg base "checked_links" 3 ["size", "links"] 2 .sh m_checked_links :=
  keeps_of T.d_checked_links sc_checked_links (by decide) fun f cdv A outer s H E hr =>
    (js_cons (js_for (ji_enum (ja_cons (je_var 1) ja_nil) T.z_enumerate) (jg_tup2 (jg_name 2 sc_checked_links.nd) (jg_name 3 sc_checked_links.nd)) (jss_fgt [2, 3] (js_one (js_if (jt_not (jt_tr (je_call (ok_is_link T) (hr.mono (by decide)) (takes_of rfl rfl rfl rfl) (ja_cons (je_var 0) (ja_cons (je_var 3) ja_nil))))) (js_one (js_raiseN (oe_BadLink T) (hr.mono (by decide)) (takes_of rfl rfl rfl rfl) (ja_cons (je_var 2) ja_nil))) js_nil))) (passes_of rfl))
    (js_one (js_ret (je_tuple T.z_tuple (ja_cons (je_share (je_sortSc (hr := hr.u) (hmS := T.z_sorted) sc_checked_links [("a", 4), ("b", 5)] (ji_seq (je_var 1)) (fun _ _ _ _ _ => (jg_tup2 (jg_name 4 sc_checked_links.nd) (jg_name 5 sc_checked_links.nd))) (fun _ _ _ _ _ => jts_nil) (fun _ _ _ _ _ => (je_tup (ja_cons (je_min2 T.z_min (ja_cons (je_var 4) (ja_cons (je_var 5) ja_nil))) (ja_cons (je_max2 T.z_max (ja_cons (je_var 4) (ja_cons (je_var 5) ja_nil))) ja_nil)))))) ja_nil)))))
theorem sc_near_nodes : FnScope ["size", "links", "near", "a", "b", "node", "row"] ["size", "links"] (defScope s_near_nodes) := ⟨rfl, rfl, rfl, by decide +kernel, rfl, by decide +kernel, by decide +kernel⟩
theorem ok_near_nodes {P : Program} {w : World} {K : PySem.W.Frag} {mg : Str → Option Value} {base : Heap} (T : Txt K mg) : Keeps P w K mg base "near_nodes" 1 ["size", "links"] 2 .sh m_near_nodes :=
  keeps_of T.d_near_nodes sc_near_nodes (by decide) fun f cdv A outer s H E hr =>
    (js_cons (js_setLcT 1 2 sc_near_nodes [("node", 5)] (ji_range1 (ja_cons (je_var 0) ja_nil) T.z_range) (fun _ _ _ _ _ => (jg_name 5 sc_near_nodes.nd)) (fun _ _ _ _ _ => jts_nil) (fun _ _ _ _ _ => (je_lstT 0)))
    (js_cons (js_for (ji_seq (je_var 1)) (jg_tup2 (jg_name 3 sc_near_nodes.nd) (jg_name 4 sc_near_nodes.nd)) (jss_fgt [3, 4] (js_cons (js_app2T 0 2 (je_var 3) (je_var 4))
    (js_one (js_app2T 0 2 (je_var 4) (je_var 3))))) (passes_of rfl))
    (js_one (js_weak1 (m := [.sh, .sh, .tr 2 none none, .sh, .sh, .sh, .sh]) (m1 := [.sh, .sh, .sh, .sh, .sh, .sh, .sh]) (js_ret (je_tuple T.z_tuple (ja_cons (je_share (je_lc sc_near_nodes [("row", 6)] (ji_seq (je_var 2)) (fun _ _ _ _ _ => (jg_name 6 sc_near_nodes.nd)) (fun _ _ _ _ _ => jts_nil) (fun _ _ _ _ _ => (je_tuple T.z_tuple (ja_cons (je_share (je_sorted hr.u T.z_sorted (ja_cons (je_var 6) ja_nil))) ja_nil))))) ja_nil)))))))
theorem sc_lanes_of : FnScope ["near", "a", "b"] ["near"] (defScope s_lanes_of) := ⟨rfl, rfl, rfl, by decide +kernel, rfl, by decide +kernel, by decide +kernel⟩
theorem ok_lanes_of {P : Program} {w : World} {K : PySem.W.Frag} {mg : Str → Option Value} {base : Heap} (T : Txt K mg) : Keeps P w K mg base "lanes_of" 1 ["near"] 1 .sh m_lanes_of :=
  keeps_of T.d_lanes_of sc_lanes_of (by decide) fun f cdv A outer s H E hr =>
    (js_one (js_ret (je_tuple T.z_tuple (ja_cons (je_share (je_lc2 sc_lanes_of [("a", 1), ("b", 2)] [2] (ji_range1 (ja_cons (je_len T.z_len (ja_cons (je_var 0) ja_nil)) ja_nil) T.z_range) (fun _ _ _ _ _ => (jg_name 1 sc_lanes_of.nd)) (fun _ _ _ _ _ => jts_nil) (fun _ _ _ _ _ => (ji_seq (je_item (je_var 0) (je_var 1)))) (fun _ _ _ _ _ => (jg_name 2 sc_lanes_of.nd)) (fun _ _ _ _ _ => jts_nil) (fun _ _ _ _ _ => (je_tup (ja_cons (je_var 1) (ja_cons (je_var 2) ja_nil)))))) ja_nil))))
theorem sc_reached : FnScope ["size", "links", "start", "known", "waiting", "node", "a", "b"] ["size", "links", "start"] (defScope s_reached) := ⟨rfl, rfl, rfl, by decide +kernel, rfl, by decide +kernel, by decide +kernel⟩
theorem ok_reached {P : Program} {w : World} {K : PySem.W.Frag} {mg : Str → Option Value} {base : Heap} (T : Txt K mg) : Keeps P w K mg base "reached" 1 ["size", "links", "start"] 3 .sh m_reached :=
  keeps_of T.d_reached sc_reached (by decide) fun f cdv A outer s H E hr =>
    (js_cons (js_set 3 (je_lc sc_reached [("node", 5)] (ji_range1 (ja_cons (je_var 0) ja_nil) T.z_range) (fun _ _ _ _ _ => (jg_name 5 sc_reached.nd)) (fun _ _ _ _ _ => jts_nil) (fun _ _ _ _ _ => je_bl)) sc_reached.nd)
    (js_cons (js_setix 3 je_bl (je_var 2))
    (js_cons (js_set 4 (je_lst (md := .ow) (ja_cons (je_var 2) ja_nil)) sc_reached.nd)
    (js_cons (js_while (jt_borrow (m1 := [.sh, .sh, .sh, .sh, .sh, .sh, .sh, .sh]) (jt_tr (je_var 4))) (jss_fgt [5, 6, 7] (js_cons (js_setX 5 (jx_pop0 4) sc_reached.nd)
    (js_one (js_for (ji_seq (je_var 1)) (jg_tup2 (jg_name 6 sc_reached.nd) (jg_name 7 sc_reached.nd)) (jss_fgt [6, 7] (js_cons (js_fgt [] (js_if (JW.jt (jw_and (jt_eq hr.u (je_var 6) (je_var 5)) (jw_and1 (jt_not (jt_tr (je_itemO 3 (je_var 7))))))) (js_cons (js_setix 3 je_bl (je_var 7))
    (js_one (js_app 4 (je_var 7)))) js_nil))
    (js_one (js_fgt [] (js_if (JW.jt (jw_and (jt_eq hr.u (je_var 7) (je_var 5)) (jw_and1 (jt_not (jt_tr (je_itemO 3 (je_var 6))))))) (js_cons (js_setix 3 je_bl (je_var 6))
    (js_one (js_app 4 (je_var 6)))) js_nil))))) (passes_of rfl))))) (passes_of rfl))
    (js_one (js_ret (je_tuple T.z_tuple (ja_cons (je_share (je_lc sc_reached [("node", 5)] (ji_range1 (ja_cons (je_var 0) ja_nil) T.z_range) (fun _ _ _ _ _ => (jg_name 5 sc_reached.nd)) (fun _ _ _ _ _ => (jts_one (jt_tr (je_itemO 3 (je_var 5))))) (fun _ _ _ _ _ => (je_var 5)))) ja_nil))))))))
theorem sc_frozen : FnScope ["value", "item"] ["value"] (defScope s_frozen) := ⟨rfl, rfl, rfl, by decide +kernel, rfl, by decide +kernel, by decide +kernel⟩
theorem okr_frozen {P : Program} {w : World} {K : PySem.W.Frag} {mg : Str → Option Value} {base : Heap} (T : Txt K mg) : ∀ n, Keeps P w K mg base "frozen" (0 + n) ["value"] 1 .sh (r_frozen n)
  | 0 => keeps_er T.d_frozen
  | n + 1 => by
    have IH := okr_frozen (P := P) (w := w) (base := base) T n
    exact keeps_of T.d_frozen sc_frozen (by decide) fun f cdv A outer s H E hr =>
    (js_cons (js_if (jt_tr (je_isi2 "list" "tuple" T.z_isinstance T.z_list T.z_tuple (je_var 0))) (js_one (js_ret (je_tuple T.z_tuple (ja_cons (je_share (je_lc sc_frozen [("item", 1)] (ji_seq (je_var 0)) (fun _ _ _ _ _ => (jg_name 1 sc_frozen.nd)) (fun _ _ _ _ _ => jts_nil) (fun _ _ _ _ _ => (je_call IH (hr.mono (Nat.le_refl _)) takesF (ja_cons (je_var 1) ja_nil))))) ja_nil)))) js_nil)
    (js_one (js_retV 0)))
theorem ok_frozen {P : Program} {w : World} {K : PySem.W.Frag} {mg : Str → Option Value} {base : Heap} (T : Txt K mg) : Keeps P w K mg base "frozen" 6 ["value"] 1 .sh m_frozen := okr_frozen T 6
theorem sc_Net_init : FnScope ["self", "size", "links", "known", "node"] ["self", "size", "links"] (defScope s_Net_init) := ⟨rfl, rfl, rfl, by decide +kernel, rfl, by decide +kernel, by decide +kernel⟩
theorem ok_Net_init {P : Program} {w : World} {K : PySem.W.Frag} {mg : Str → Option Value} {base : Heap} (T : Txt K mg) : KeepsI P w K mg base "Net" 7 ["self", "size", "links"] 2 m_Net_init :=
  keepsI_of T.d_Net_init sc_Net_init (by decide) rfl fun f p cdv A outer s H E hr =>
    (js_cons (js_if (jt_not (jt_chain op_le op_le opd_P opd_P je_int (je_var 1) (je_globI T.c_MOST_NODES))) (js_one (js_raiseN (oe_BadSize T) (hr.mono (by decide)) (takes_of rfl rfl rfl rfl) (ja_cons (je_var 1) ja_nil))) js_nil)
    (js_cons (js_fld "Net" 0 T.f_Net_size (je_var 1))
    (js_cons (js_fld "Net" 0 T.f_Net_links (je_call (ok_checked_links T) (hr.mono (by decide)) (takes_of rfl rfl rfl rfl) (ja_cons (je_var 1) (ja_cons (je_call (ok_frozen T) (hr.mono (by decide)) (takes_of rfl rfl rfl rfl) (ja_cons (je_var 2) ja_nil)) ja_nil))))
    (js_cons (js_fld "Net" 0 T.f_Net_near (je_call (ok_near_nodes T) (hr.mono (by decide)) (takes_of rfl rfl rfl rfl) (ja_cons (je_var 1) (ja_cons (je_fldO "Net" 0 T.f_Net_links) ja_nil))))
    (js_cons (js_fld "Net" 0 T.f_Net_lane_row (je_call (ok_lanes_of T) (hr.mono (by decide)) (takes_of rfl rfl rfl rfl) (ja_cons (je_fldO "Net" 0 T.f_Net_near) ja_nil)))
    (js_cons (js_set 3 (je_call (ok_reached T) (hr.mono (by decide)) (takes_of rfl rfl rfl rfl) (ja_cons (je_var 1) (ja_cons (je_fldO "Net" 0 T.f_Net_links) (ja_cons je_int ja_nil)))) sc_Net_init.nd)
    (js_one (js_for (ji_range1 (ja_cons (je_var 1) ja_nil) T.z_range) (jg_name 4 sc_Net_init.nd) (jss_fgt [4] (js_one (js_if (jt_notIn hr.u (je_var 4) (je_var 3)) (js_one (js_raiseN (oe_NotConnected T) (hr.mono (by decide)) (takes_of rfl rfl rfl rfl) (ja_cons (je_var 4) ja_nil))) js_nil))) (passes_of rfl)))))))))
theorem sc_lane_prices : FnScope ["net", "prices", "index", "price", "lane"] ["net", "prices"] (defScope s_lane_prices) := ⟨rfl, rfl, rfl, by decide +kernel, rfl, by decide +kernel, by decide +kernel⟩
theorem ok_lane_prices {P : Program} {w : World} {K : PySem.W.Frag} {mg : Str → Option Value} {base : Heap} (T : Txt K mg) : Keeps P w K mg base "lane_prices" 7 ["net", "prices"] 2 .sh m_lane_prices :=
  keeps_of T.d_lane_prices sc_lane_prices (by decide) fun f cdv A outer s H E hr =>
    (js_cons (js_set 1 (je_call (ok_frozen T) (hr.mono (by decide)) (takes_of rfl rfl rfl rfl) (ja_cons (je_var 1) ja_nil)) sc_lane_prices.nd)
    (js_cons (js_if (jt_ne hr.u (je_len T.z_len (ja_cons (je_var 1) ja_nil)) (je_len T.z_len (ja_cons (je_fld "Net" T.f_Net_lane_row (je_var 0)) ja_nil))) (js_one (js_raiseN (oe_BadCount T) (hr.mono (by decide)) (takes_of rfl rfl rfl rfl) (ja_cons (je_len T.z_len (ja_cons (je_var 1) ja_nil)) ja_nil))) js_nil)
    (js_cons (js_for (ji_enum (ja_cons (je_var 1) ja_nil) T.z_enumerate) (jg_tup2 (jg_name 2 sc_lane_prices.nd) (jg_name 3 sc_lane_prices.nd)) (jss_fgt [2, 3] (js_one (js_if (jt_lt (je_var 3) je_int) (js_one (js_raiseN (oe_BadPrice T) (hr.mono (by decide)) (takes_of rfl rfl rfl rfl) (ja_cons (je_var 2) ja_nil))) js_nil))) (passes_of rfl))
    (js_one (js_ret (je_share (je_dcT hr.u sc_lane_prices [("lane", 4), ("price", 3)] (ji_zip (ja_cons (je_fld "Net" T.f_Net_lane_row (je_var 0)) (ja_cons (je_var 1) ja_nil)) T.z_zip) (fun _ _ _ _ _ => (jg_tup2 (jg_name 4 sc_lane_prices.nd) (jg_name 3 sc_lane_prices.nd))) (fun _ _ _ _ _ => jts_nil) (fun _ _ _ _ _ => (je_var 4)) (fun _ _ _ _ _ => (je_var 3)))))))))
theorem sc_route_lanes : FnScope ["route", "k"] ["route"] (defScope s_route_lanes) := ⟨rfl, rfl, rfl, by decide +kernel, rfl, by decide +kernel, by decide +kernel⟩
theorem ok_route_lanes {P : Program} {w : World} {K : PySem.W.Frag} {mg : Str → Option Value} {base : Heap} (T : Txt K mg) : Keeps P w K mg base "route_lanes" 1 ["route"] 1 .sh m_route_lanes :=
  keeps_of T.d_route_lanes sc_route_lanes (by decide) fun f cdv A outer s H E hr =>
    (js_one (js_ret (je_tuple T.z_tuple (ja_cons (je_share (je_lc sc_route_lanes [("k", 1)] (ji_range1 (ja_cons (je_sub (je_len T.z_len (ja_cons (je_var 0) ja_nil)) je_int) ja_nil) T.z_range) (fun _ _ _ _ _ => (jg_name 1 sc_route_lanes.nd)) (fun _ _ _ _ _ => jts_nil) (fun _ _ _ _ _ => (je_tup (ja_cons (je_item (je_var 0) (je_var 1)) (ja_cons (je_item (je_var 0) (je_add (je_var 1) je_int)) ja_nil)))))) ja_nil))))
theorem sc_is_route : FnScope ["net", "value", "sender", "goal", "route", "a", "b", "node"] ["net", "value", "sender", "goal"] (defScope s_is_route) := ⟨rfl, rfl, rfl, by decide +kernel, rfl, by decide +kernel, by decide +kernel⟩
theorem ok_is_route {P : Program} {w : World} {K : PySem.W.Frag} {mg : Str → Option Value} {base : Heap} (T : Txt K mg) : Keeps P w K mg base "is_route" 7 ["net", "value", "sender", "goal"] 4 .sh m_is_route :=
  keeps_of T.d_is_route sc_is_route (by decide) fun f cdv A outer s H E hr =>
    (js_cons (js_set 4 (je_call (ok_frozen T) (hr.mono (by decide)) (takes_of rfl rfl rfl rfl) (ja_cons (je_var 1) ja_nil)) sc_is_route.nd)
    (js_cons (js_if (JW.jt (jw_or (jt_not (jt_tr (je_var 4))) (jw_or1 (jt_not (jt_tr (je_all T.z_all (ja_cons (je_share (je_lc sc_is_route [("node", 7)] (ji_seq (je_var 4)) (fun _ _ _ _ _ => (jg_name 7 sc_is_route.nd)) (fun _ _ _ _ _ => jts_nil) (fun _ _ _ _ _ => (je_and (je_call (ok_is_number T) (hr.mono (by decide)) takesF (ja_cons (je_var 7) ja_nil)) (je_last (je_chain op_le op_lt opd_P opd_P je_int (je_var 7) (je_fld "Net" T.f_Net_size (je_var 0)))))))) ja_nil))))))) (js_one (js_ret je_bl)) js_nil)
    (js_cons (js_if (JW.jt (jw_or (jt_ne hr.u (je_item (je_var 4) je_int) (je_var 2)) (jw_or (jt_ne hr.u (je_item (je_var 4) (je_neg je_int)) (je_var 3)) (jw_or1 (jt_ne hr.u (je_lenSet T.z_len T.z_set (je_var 4)) (je_len T.z_len (ja_cons (je_var 4) ja_nil))))))) (js_one (js_ret je_bl)) js_nil)
    (js_one (js_ret (je_all T.z_all (ja_cons (je_share (je_lc sc_is_route [("a", 5), ("b", 6)] (ji_seq (je_call (ok_route_lanes T) (hr.mono (by decide)) (takes_of rfl rfl rfl rfl) (ja_cons (je_var 4) ja_nil))) (fun _ _ _ _ _ => (jg_tup2 (jg_name 5 sc_is_route.nd) (jg_name 6 sc_is_route.nd))) (fun _ _ _ _ _ => jts_nil) (fun _ _ _ _ _ => (je_in hr.u (je_var 6) (je_item (je_fld "Net" T.f_Net_near (je_var 0)) (je_var 5)))))) ja_nil)))))))
theorem sc_checked_routes : FnScope ["net", "rows", "u", "v"] ["net", "rows"] (defScope s_checked_routes) := ⟨rfl, rfl, rfl, by decide +kernel, rfl, by decide +kernel, by decide +kernel⟩
theorem ok_checked_routes {P : Program} {w : World} {K : PySem.W.Frag} {mg : Str → Option Value} {base : Heap} (T : Txt K mg) : Keeps P w K mg base "checked_routes" 8 ["net", "rows"] 2 .sh m_checked_routes :=
  keeps_of T.d_checked_routes sc_checked_routes (by decide) fun f cdv A outer s H E hr =>
    (js_cons (js_set 1 (je_call (ok_frozen T) (hr.mono (by decide)) (takes_of rfl rfl rfl rfl) (ja_cons (je_var 1) ja_nil)) sc_checked_routes.nd)
    (js_cons (js_for (ji_range1 (ja_cons (je_fld "Net" T.f_Net_size (je_var 0)) ja_nil) T.z_range) (jg_name 2 sc_checked_routes.nd) (jss_fgt [2, 3] (js_one (js_for (ji_range1 (ja_cons (je_fld "Net" T.f_Net_size (je_var 0)) ja_nil) T.z_range) (jg_name 3 sc_checked_routes.nd) (jss_fgt [3] (js_one (js_if (jt_not (jt_tr (je_call (ok_is_route T) (hr.mono (by decide)) (takes_of rfl rfl rfl rfl) (ja_cons (je_var 0) (ja_cons (je_item (je_item (je_var 1) (je_var 2)) (je_var 3)) (ja_cons (je_var 2) (ja_cons (je_var 3) ja_nil))))))) (js_one (js_raiseN (oe_BadRoute T) (hr.mono (by decide)) (takes_of rfl rfl rfl rfl) (ja_cons (je_var 2) (ja_cons (je_var 3) ja_nil)))) js_nil))) (passes_of rfl)))) (passes_of rfl))
    (js_one (js_retV 1))))
theorem sc_Book_init : FnScope ["self", "net", "rows"] ["self", "net", "rows"] (defScope s_Book_init) := ⟨rfl, rfl, rfl, by decide +kernel, rfl, by decide +kernel, by decide +kernel⟩
theorem ok_Book_init {P : Program} {w : World} {K : PySem.W.Frag} {mg : Str → Option Value} {base : Heap} (T : Txt K mg) : KeepsI P w K mg base "Book" 9 ["self", "net", "rows"] 2 m_Book_init :=
  keepsI_of T.d_Book_init sc_Book_init (by decide) rfl fun f p cdv A outer s H E hr =>
    (js_cons (js_fld "Book" 0 T.f_Book_net (je_var 1))
    (js_one (js_fld "Book" 0 T.f_Book_rows (je_call (ok_checked_routes T) (hr.mono (by decide)) (takes_of rfl rfl rfl rfl) (ja_cons (je_var 1) (ja_cons (je_var 2) ja_nil))))))
theorem sc_goal_heights : FnScope ["net", "price", "goal", "least", "queue", "node", "height", "other"] ["net", "price", "goal"] (defScope s_goal_heights) := ⟨rfl, rfl, rfl, by decide +kernel, rfl, by decide +kernel, by decide +kernel⟩
theorem ok_goal_heights {P : Program} {w : World} {K : PySem.W.Frag} {mg : Str → Option Value} {base : Heap} (T : Txt K mg) : Keeps P w K mg base "goal_heights" 1 ["net", "price", "goal"] 3 .sh m_goal_heights :=
  keeps_of T.d_goal_heights sc_goal_heights (by decide) fun f cdv A outer s H E hr =>
    (js_cons (js_setLc 3 sc_goal_heights [("node", 5)] (ji_range1 (ja_cons (je_fld "Net" T.f_Net_size (je_var 0)) ja_nil) T.z_range) (fun _ _ _ _ _ => (jg_name 5 sc_goal_heights.nd)) (fun _ _ _ _ _ => jts_nil) (fun _ _ _ _ _ => je_non))
    (js_cons (js_set 4 (je_lst (md := .ow) (ja_cons (je_tup (ja_cons je_int (ja_cons (je_var 2) ja_nil))) ja_nil)) sc_goal_heights.nd)
    (js_cons (js_while (jt_borrow (m1 := [.sh, .sh, .sh, .sh, .sh, .sh, .sh, .sh]) (jt_tr (je_var 4))) (jss_fgt [5, 6, 7] (js_cons (js_asgX (jx_hpop 4 hr.u T.g_heappop) (jg_tup2 (jg_name 6 sc_goal_heights.nd) (jg_name 5 sc_goal_heights.nd)))
    (js_one (js_fgt [7] (js_if (jt_isN (je_itemO 3 (je_var 5))) (js_cons (js_setix 3 (je_var 6) (je_var 5))
    (js_one (js_for (ji_seq (je_item (je_fld "Net" T.f_Net_near (je_var 0)) (je_var 5))) (jg_name 7 sc_goal_heights.nd) (jss_fgt [7] (js_one (js_fgt [] (js_if (jt_isN (je_itemO 3 (je_var 7))) (js_one (js_hpush 4 hr.u T.g_heappush (je_tup (ja_cons (je_add (je_var 6) (je_dgetT hr.u (je_var 1) (je_tup (ja_cons (je_var 7) (ja_cons (je_var 5) ja_nil))))) (ja_cons (je_var 7) ja_nil))))) js_nil)))) (passes_of rfl)))) js_nil))))) (passes_of rfl))
    (js_one (js_weak1 (m := [.sh, .sh, .sh, .ow, .ow, .sh, .sh, .sh]) (m1 := [.sh, .sh, .sh, .sh, .ow, .sh, .sh, .sh]) (js_ret (je_tuple T.z_tuple (ja_cons (je_var 3) ja_nil))))))))
theorem sc_descent : FnScope ["net", "price", "least", "sender", "route", "node", "other"] ["net", "price", "least", "sender"] (defScope s_descent) := ⟨rfl, rfl, rfl, by decide +kernel, rfl, by decide +kernel, by decide +kernel⟩
theorem ok_descent {P : Program} {w : World} {K : PySem.W.Frag} {mg : Str → Option Value} {base : Heap} (T : Txt K mg) : Keeps P w K mg base "descent" 1 ["net", "price", "least", "sender"] 4 .sh m_descent :=
  keeps_of T.d_descent sc_descent (by decide) fun f cdv A outer s H E hr =>
    (js_cons (js_set 4 (je_lst (md := .ow) (ja_cons (je_var 3) ja_nil)) sc_descent.nd)
    (js_cons (js_while (jt_gt (je_item (je_var 2) (je_itemO 4 (je_neg je_int))) je_int) (jss_fgt [5, 6] (js_cons (js_set 5 (je_itemO 4 (je_neg je_int)) sc_descent.nd)
    (js_one (js_for (ji_seq (je_item (je_fld "Net" T.f_Net_near (je_var 0)) (je_var 5))) (jg_name 6 sc_descent.nd) (jss_fgt [6] (js_one (js_if (jt_eq hr.u (je_item (je_var 2) (je_var 5)) (je_add (je_dgetT hr.u (je_var 1) (je_tup (ja_cons (je_var 5) (ja_cons (je_var 6) ja_nil)))) (je_item (je_var 2) (je_var 6)))) (js_cons (js_app 4 (je_var 6))
    (js_one js_break)) js_nil))) (passes_of rfl))))) (passes_of rfl))
    (js_one (js_weak1 (m := [.sh, .sh, .sh, .sh, .ow, .sh, .sh]) (m1 := [.sh, .sh, .sh, .sh, .sh, .sh, .sh]) (js_ret (je_tuple T.z_tuple (ja_cons (je_var 4) ja_nil)))))))
theorem sc_priced_book : FnScope ["net", "prices", "price", "rows", "goal", "least", "sender", "node"] ["net", "prices"] (defScope s_priced_book) := ⟨rfl, rfl, rfl, by decide +kernel, rfl, by decide +kernel, by decide +kernel⟩
theorem ok_priced_book {P : Program} {w : World} {K : PySem.W.Frag} {mg : Str → Option Value} {base : Heap} (T : Txt K mg) : Keeps P w K mg base "priced_book" 11 ["net", "prices"] 2 .sh m_priced_book :=
  keeps_of T.d_priced_book sc_priced_book (by decide) fun f cdv A outer s H E hr =>
    (js_cons (js_set 2 (je_call (ok_lane_prices T) (hr.mono (by decide)) (takes_of rfl rfl rfl rfl) (ja_cons (je_var 0) (ja_cons (je_var 1) ja_nil))) sc_priced_book.nd)
    (js_cons (js_setLcT 1 3 sc_priced_book [("node", 7)] (ji_range1 (ja_cons (je_fld "Net" T.f_Net_size (je_var 0)) ja_nil) T.z_range) (fun _ _ _ _ _ => (jg_name 7 sc_priced_book.nd)) (fun _ _ _ _ _ => jts_nil) (fun _ _ _ _ _ => (je_lstT 0)))
    (js_cons (js_for (ji_range1 (ja_cons (je_fld "Net" T.f_Net_size (je_var 0)) ja_nil) T.z_range) (jg_name 4 sc_priced_book.nd) (jss_fgt [4, 5, 6] (js_cons (js_set 5 (je_call (ok_goal_heights T) (hr.mono (by decide)) (takes_of rfl rfl rfl rfl) (ja_cons (je_var 0) (ja_cons (je_var 2) (ja_cons (je_var 4) ja_nil)))) sc_priced_book.nd)
    (js_one (js_for (ji_range1 (ja_cons (je_fld "Net" T.f_Net_size (je_var 0)) ja_nil) T.z_range) (jg_name 6 sc_priced_book.nd) (jss_fgt [6] (js_one (js_app2T 0 3 (je_var 6) (je_call (ok_descent T) (hr.mono (by decide)) (takes_of rfl rfl rfl rfl) (ja_cons (je_var 0) (ja_cons (je_var 2) (ja_cons (je_var 5) (ja_cons (je_var 6) ja_nil)))))))) (passes_of rfl))))) (passes_of rfl))
    (js_one (js_weak1 (m := [.sh, .sh, .sh, .tr 2 none none, .sh, .sh, .sh, .sh]) (m1 := [.sh, .sh, .sh, .sh, .sh, .sh, .sh, .sh]) (js_ret (je_make (ok_Book_init T) (hr.mono (by decide)) (takes_of rfl rfl rfl rfl) (ja_cons (je_var 0) (ja_cons (je_var 3) ja_nil)))))))))
theorem sc_law_cell : FnScope ["script", "k", "seed", "cell"] ["script", "k"] (defScope s_law_cell) := ⟨rfl, rfl, rfl, by decide +kernel, rfl, by decide +kernel, by decide +kernel⟩
theorem ok_law_cell {P : Program} {w : World} {K : PySem.W.Frag} {mg : Str → Option Value} {base : Heap} (T : Txt K mg) : Keeps P w K mg base "_law_cell" 1 ["script", "k"] 2 .sh m_law_cell :=
  keeps_of T.d_law_cell sc_law_cell (by decide) fun f cdv A outer s H E hr =>
    (js_cons (js_if (jt_lt (je_var 1) (je_len T.z_len (ja_cons (je_var 0) ja_nil))) (js_one (js_ret (je_item (je_var 0) (je_var 1)))) js_nil)
    (js_cons (js_set 2 je_int sc_law_cell.nd)
    (js_cons (js_for (ji_seq (je_var 0)) (jg_name 3 sc_law_cell.nd) (jss_fgt [3] (js_one (js_set 2 (je_mod (je_int_ T.z_int (ja_cons (je_add (je_mulI (je_var 2) je_int) (je_mod (je_int_ T.z_int (ja_cons (je_var 3) ja_nil)) je_int)) ja_nil)) je_int) sc_law_cell.nd))) (passes_of rfl))
    (js_one (js_ret (je_mod (je_int_ T.z_int (ja_cons (je_mulI (je_mulI (je_add (je_var 2) je_int) (je_add (je_var 1) je_int)) je_int) ja_nil)) je_int))))))
theorem sc_heights : FnScope ["net", "prices", "goal"] ["net", "prices", "goal"] (defScope s_heights) := ⟨rfl, rfl, rfl, by decide +kernel, rfl, by decide +kernel, by decide +kernel⟩
theorem ok_heights {P : Program} {w : World} {K : PySem.W.Frag} {mg : Str → Option Value} {base : Heap} (T : Txt K mg) : Keeps P w K mg base "heights" 8 ["net", "prices", "goal"] 3 .sh m_heights :=
  keeps_of T.d_heights sc_heights (by decide) fun f cdv A outer s H E hr =>
    (js_one (js_ret (je_call (ok_goal_heights T) (hr.mono (by decide)) (takes_of rfl rfl rfl rfl) (ja_cons (je_var 0) (ja_cons (je_call (ok_lane_prices T) (hr.mono (by decide)) (takes_of rfl rfl rfl rfl) (ja_cons (je_var 0) (ja_cons (je_var 1) ja_nil))) (ja_cons (je_var 2) ja_nil))))))
theorem sc_Book_call : FnScope ["self", "u", "v"] ["self", "u", "v"] (defScope s_Book_call) := ⟨rfl, rfl, rfl, by decide +kernel, rfl, by decide +kernel, by decide +kernel⟩
theorem ok_Book_call {P : Program} {w : World} {K : PySem.W.Frag} {mg : Str → Option Value} {base : Heap} (T : Txt K mg) : KeepsM P w K mg base "Book" "__call__" 1 ["self", "u", "v"] 3 .sh m_Book_call :=
  keepsM_of T.d_Book_call sc_Book_call (by decide) fun f cdv A outer s H E hr =>
    (js_one (js_ret (je_item (je_item (je_fld "Book" T.f_Book_rows (je_var 0)) (je_var 1)) (je_var 2))))
theorem sc_law_whole : FnScope ["value"] ["value"] (defScope s_law_whole) := ⟨rfl, rfl, rfl, by decide +kernel, rfl, by decide +kernel, by decide +kernel⟩
theorem ok_law_whole {P : Program} {w : World} {K : PySem.W.Frag} {mg : Str → Option Value} {base : Heap} (T : Txt K mg) : Keeps P w K mg base "_law_whole" 1 ["value"] 1 .sh m_law_whole :=
  keeps_of T.d_law_whole sc_law_whole (by decide) fun f cdv A outer s H E hr =>
    (js_one (js_ret (je_and (je_isi "int" T.z_isinstance T.z_int (je_var 0)) (je_last (je_not (je_isi "bool" T.z_isinstance T.z_bool (je_var 0)))))))
theorem sc_law_same : FnScope ["value", "due", "k"] ["value", "due"] (defScope s_law_same) := ⟨rfl, rfl, rfl, by decide +kernel, rfl, by decide +kernel, by decide +kernel⟩
theorem okr_law_same {P : Program} {w : World} {K : PySem.W.Frag} {mg : Str → Option Value} {base : Heap} (T : Txt K mg) : ∀ n, Keeps P w K mg base "_law_same" (1 + n) ["value", "due"] 2 .sh (r_law_same n)
  | 0 => keeps_er T.d_law_same
  | n + 1 => by
    have IH := okr_law_same (P := P) (w := w) (base := base) T n
    exact keeps_of T.d_law_same sc_law_same (by decide) fun f cdv A outer s H E hr =>
    (js_cons (js_if (JW.jt (jw_or (jt_tr (je_isi "tuple" T.z_isinstance T.z_tuple (je_var 1))) (jw_or1 (jt_tr (je_isi "list" T.z_isinstance T.z_list (je_var 1)))))) (js_cons (js_if (JW.jt (jw_or (jt_not (jt_tr (je_isi "tuple" T.z_isinstance T.z_tuple (je_var 0)))) (jw_or1 (jt_ne hr.u (je_len T.z_len (ja_cons (je_var 0) ja_nil)) (je_len T.z_len (ja_cons (je_var 1) ja_nil)))))) (js_one (js_ret je_bl)) js_nil)
    (js_cons (js_for (ji_range1 (ja_cons (je_len T.z_len (ja_cons (je_var 1) ja_nil)) ja_nil) T.z_range) (jg_name 2 sc_law_same.nd) (jss_fgt [2] (js_one (js_if (jt_not (jt_tr (je_call IH (hr.mono (Nat.le_refl _)) (takes_of rfl rfl rfl rfl) (ja_cons (je_item (je_var 0) (je_var 2)) (ja_cons (je_item (je_var 1) (je_var 2)) ja_nil))))) (js_one (js_ret je_bl)) js_nil))) (passes_of rfl))
    (js_one (js_ret je_bl)))) js_nil)
    (js_cons (js_if (jt_isN (je_var 1)) (js_one (js_ret (je_isN (je_var 0)))) js_nil)
    (js_cons (js_if (jt_isB (je_var 1)) (js_one (js_ret (je_isB (je_var 0)))) js_nil)
    (js_cons (js_if (jt_isB (je_var 1)) (js_one (js_ret (je_isB (je_var 0)))) js_nil)
    (js_cons (js_if (jt_tr (je_isi "str" T.z_isinstance T.z_str (je_var 1))) (js_one (js_ret (je_and (je_isi "str" T.z_isinstance T.z_str (je_var 0)) (je_last (je_eq hr.u (je_var 0) (je_var 1)))))) js_nil)
    (js_one (js_ret (je_and (je_call (ok_law_whole T) (hr.mono (Nat.le_trans (show 1 ≤ 1 by decide) (Nat.le_add_right 1 n))) (takes_of rfl rfl rfl rfl) (ja_cons (je_var 0) ja_nil)) (je_last (je_eq hr.u (je_var 0) (je_var 1)))))))))))
theorem ok_law_same {P : Program} {w : World} {K : PySem.W.Frag} {mg : Str → Option Value} {base : Heap} (T : Txt K mg) : Keeps P w K mg base "_law_same" 7 ["value", "due"] 2 .sh m_law_same := okr_law_same T 6
theorem sc_law_heights : FnScope ["near", "price", "goal", "least", "turn", "a", "k", "b"] ["near", "price", "goal"] (defScope s_law_heights) := ⟨rfl, rfl, rfl, by decide +kernel, rfl, by decide +kernel, by decide +kernel⟩
theorem ok_law_heights {P : Program} {w : World} {K : PySem.W.Frag} {mg : Str → Option Value} {base : Heap} (T : Txt K mg) : Keeps P w K mg base "_law_heights" 1 ["near", "price", "goal"] 3 .ow m_law_heights :=
  keeps_of T.d_law_heights sc_law_heights (by decide) fun f cdv A outer s H E hr =>
    (js_cons (js_setLc 3 sc_law_heights [("k", 6)] (ji_range1 (ja_cons (je_len T.z_len (ja_cons (je_var 0) ja_nil)) ja_nil) T.z_range) (fun _ _ _ _ _ => (jg_name 6 sc_law_heights.nd)) (fun _ _ _ _ _ => jts_nil) (fun _ _ _ _ _ => je_non))
    (js_cons (js_setix 3 je_int (je_var 2))
    (js_cons (js_for (ji_range1 (ja_cons (je_len T.z_len (ja_cons (je_var 0) ja_nil)) ja_nil) T.z_range) (jg_name 4 sc_law_heights.nd) (jss_fgt [4, 5, 7] (js_one (js_for (ji_range1 (ja_cons (je_len T.z_len (ja_cons (je_var 0) ja_nil)) ja_nil) T.z_range) (jg_name 5 sc_law_heights.nd) (jss_fgt [5, 7] (js_one (js_for (ji_seq (je_item (je_var 0) (je_var 5))) (jg_name 7 sc_law_heights.nd) (jss_fgt [7] (js_one (js_fgt [] (js_if (JW.jt (jw_and (jt_notN (je_itemO 3 (je_var 7))) (jw_and1 (JW.jt (jw_or (jt_isN (je_itemO 3 (je_var 5))) (jw_or1 (jt_gt (je_itemO 3 (je_var 5)) (je_add (je_dgetT hr.u (je_var 1) (je_tup (ja_cons (je_var 5) (ja_cons (je_var 7) ja_nil)))) (je_itemO 3 (je_var 7)))))))))) (js_one (js_setix 3 (je_add (je_dgetT hr.u (je_var 1) (je_tup (ja_cons (je_var 5) (ja_cons (je_var 7) ja_nil)))) (je_itemO 3 (je_var 7))) (je_var 5))) js_nil)))) (passes_of rfl)))) (passes_of rfl)))) (passes_of rfl))
    (js_one (js_retV 3)))))
theorem sc_law : FnScope ["script", "net", "size", "near", "lanes", "row", "prices", "k", "price", "own", "book", "goal", "digit", "told", "a", "steps", "route", "b", "step"] ["script"] (defScope s_law) := ⟨rfl, rfl, rfl, by decide +kernel, rfl, by decide +kernel, by decide +kernel⟩
theorem okf_law {P : Program} {w : World} {K : PySem.W.Frag} {mg : Str → Option Value} {base : Heap} (T : Txt K mg) {f : Addr} {fd : FuncData} (Fn : Fun K "law" "law" s_law f fd) : FnOk P w K mg base (L2.CX P w) 12 f fd ["script"] (spD K mg 1 .sh m_law) :=
  fn_ok (m' := msh 19) Fn sc_law (by decide) fun cdv A outer s H E hr =>
    (js_cons (js_set 1 (je_call (ok_law_net T) (hr.mono (by decide)) (takes_of rfl rfl rfl rfl) (ja_cons (je_share (je_call (ok_law_digits T) (hr.mono (by decide)) (takes_of rfl rfl rfl rfl) (ja_cons (je_call (ok_law_cell T) (hr.mono (by decide)) (takes_of rfl rfl rfl rfl) (ja_cons (je_var 0) (ja_cons je_int ja_nil))) (ja_cons (je_share (je_addL (je_share (je_addL (je_share (je_lst (md := .ow) (ja_cons je_int ja_nil))) (je_share (je_rep (je_share (je_lst (md := .ow) (ja_cons je_int ja_nil))) je_int)))) (je_share (je_rep (je_share (je_lst (md := .ow) (ja_cons je_int (ja_cons je_int (ja_cons je_int ja_nil))))) je_int)))) ja_nil)))) (ja_cons je_int ja_nil))) sc_law.nd)
    (js_cons (js_set 2 (je_itemO 1 je_int) sc_law.nd)
    (js_cons (js_set 3 (je_call (ok_law_near T) (hr.mono (by decide)) (takes_of rfl rfl rfl rfl) (ja_cons (je_var 2) (ja_cons (je_itemO 1 je_int) ja_nil))) sc_law.nd)
    (js_cons (js_weak1 (m := [.sh, .ow, .sh, .ow, .sh, .sh, .sh, .sh, .sh, .sh, .sh, .sh, .sh, .sh, .sh, .sh, .sh, .sh, .sh]) (m1 := [.sh, .ow, .sh, .sh, .sh, .sh, .sh, .sh, .sh, .sh, .sh, .sh, .sh, .sh, .sh, .sh, .sh, .sh, .sh]) (js_set 4 (je_call (ok_law_lanes T) (hr.mono (by decide)) (takes_of rfl rfl rfl rfl) (ja_cons (je_var 3) ja_nil)) sc_law.nd))
    (js_cons (js_set 5 (je_call (ok_law_digits T) (hr.mono (by decide)) (takes_of rfl rfl rfl rfl) (ja_cons (je_call (ok_law_cell T) (hr.mono (by decide)) (takes_of rfl rfl rfl rfl) (ja_cons (je_var 0) (ja_cons je_int ja_nil))) (ja_cons (je_share (je_addL (je_share (je_lst (md := .ow) (ja_cons je_int ja_nil))) (je_share (je_rep (je_share (je_lst (md := .ow) (ja_cons (je_pow je_int je_int) ja_nil))) je_int)))) ja_nil))) sc_law.nd)
    (js_cons (js_set 6 (je_lst (md := .ow) ja_nil) sc_law.nd)
    (js_cons (js_for (ji_range1 (ja_cons (je_borrow (m1 := [.sh, .sh, .sh, .sh, .sh, .sh, .sh, .sh, .sh, .sh, .sh, .sh, .sh, .sh, .sh, .sh, .sh, .sh, .sh]) (je_len T.z_len (ja_cons (je_var 4) ja_nil))) ja_nil) T.z_range) (jg_name 7 sc_law.nd) (jss_fgt [7, 12] (js_cons (js_set 12 (je_add (je_itemO 5 (je_add je_int (je_mod (je_mulI (je_var 7) je_int) je_int))) (je_mod (je_var 7) je_int)) sc_law.nd)
    (js_one (js_app 6 (je_item (je_share (je_lst (md := .ow) (ja_cons (je_add je_int (je_mod (je_var 12) je_int)) (ja_cons (je_add je_int (je_mod (je_var 12) je_int)) (ja_cons (je_add (je_mulI (je_pow je_int je_int) (je_add je_int (je_mod (je_var 12) je_int))) (je_mod (je_var 12) je_int)) ja_nil))))) (je_itemO 5 je_int)))))) (passes_of rfl))
    (js_cons (js_set 8 je_dnewT sc_law.nd)
    (js_cons (js_for (ji_range1 (ja_cons (je_borrow (m1 := [.sh, .sh, .sh, .sh, .sh, .sh, .sh, .sh, .sh, .sh, .sh, .sh, .sh, .sh, .sh, .sh, .sh, .sh, .sh]) (je_len T.z_len (ja_cons (je_var 4) ja_nil))) ja_nil) T.z_range) (jg_name 7 sc_law.nd) (jss_fgt [7] (js_one (js_dputT 8 hr.u (je_itemO 6 (je_var 7)) (je_itemO 4 (je_var 7))))) (passes_of rfl))
    (js_cons (js_set 9 (je_make (ok_Net_init T) (hr.mono (by decide)) (takes_of rfl rfl rfl rfl) (ja_cons (je_var 2) (ja_cons (je_itemO 1 je_int) ja_nil))) sc_law.nd)
    (js_cons (js_weak1 (m := [.sh, .ow, .sh, .sh, .ow, .ow, .ow, .sh, .dt, .sh, .sh, .sh, .sh, .sh, .sh, .sh, .sh, .sh, .sh]) (m1 := [.sh, .ow, .sh, .sh, .ow, .ow, .sh, .sh, .dt, .sh, .sh, .sh, .sh, .sh, .sh, .sh, .sh, .sh, .sh]) (js_set 10 (je_call (ok_priced_book T) (hr.mono (by decide)) (takes_of rfl rfl rfl rfl) (ja_cons (je_var 9) (ja_cons (je_var 6) ja_nil))) sc_law.nd))
    (js_cons (js_for (ji_range1 (ja_cons (je_var 2) ja_nil) T.z_range) (jg_name 11 sc_law.nd) (jss_fgt [11, 13, 14, 15, 16] (js_cons (js_set 13 (je_call (ok_heights T) (hr.mono (by decide)) (takes_of rfl rfl rfl rfl) (ja_cons (je_var 9) (ja_cons (je_share ((je_list (md := .ow)) T.z_list (ja_cons (je_var 6) ja_nil))) (ja_cons (je_var 11) ja_nil)))) sc_law.nd)
    (js_cons (js_if (JW.jt (jw_or (jt_not (jt_borrow (m1 := [.sh, .sh, .sh, .sh, .sh, .sh, .sh, .sh, .sh, .sh, .sh, .sh, .sh, .sh, .sh, .sh, .sh, .sh, .sh]) (jt_tr (je_call (ok_law_same T) (hr.mono (by decide)) (takes_of rfl rfl rfl rfl) (ja_cons (je_var 13) (ja_cons (je_share (je_call (ok_law_heights T) (hr.mono (by decide)) (takes_of rfl rfl rfl rfl) (ja_cons (je_var 3) (ja_cons (je_var 8) (ja_cons (je_var 11) ja_nil))))) ja_nil)))))) (jw_or1 (jt_ne hr.u (je_item (je_var 13) (je_var 11)) je_int)))) (js_one (js_ret je_bl)) js_nil)
    (js_one (js_for (ji_range1 (ja_cons (je_var 2) ja_nil) T.z_range) (jg_name 14 sc_law.nd) (jss_fgt [14, 15, 16] (js_end (m1 := [.sh, .ow, .sh, .sh, .ow, .ow, .sh, .sh, .dt, .sh, .sh, .sh, .sh, .sh, .sh, .ow, .sh, .sh, .sh]) (m2 := [.sh, .ow, .sh, .sh, .ow, .ow, .sh, .sh, .dt, .sh, .sh, .sh, .sh, .sh, .sh, .sh, .sh, .sh, .sh]) (js_cons (js_setLc 15 sc_law [("b", 17)] (ji_seq (je_item (je_var 3) (je_var 14))) (fun _ _ _ _ _ => (jg_name 17 sc_law.nd)) (fun _ _ _ _ _ => jts_nil) (fun _ _ _ _ _ => (je_add (je_dgetOT 8 hr.u (je_tup (ja_cons (je_var 14) (ja_cons (je_var 17) ja_nil)))) (je_item (je_var 13) (je_var 17)))))
    (js_cons (js_if (jt_gt (je_borrow (m1 := [.sh, .sh, .sh, .sh, .sh, .sh, .sh, .sh, .sh, .sh, .sh, .sh, .sh, .sh, .sh, .sh, .sh, .sh, .sh]) (je_len T.z_len (ja_cons (je_share (je_lc sc_law [("step", 18)] (ji_seq (je_var 15)) (fun _ _ _ _ _ => (jg_name 18 sc_law.nd)) (fun _ _ _ _ _ => (jts_one (jt_lt (je_var 18) (je_item (je_var 13) (je_var 14))))) (fun _ _ _ _ _ => (je_var 18)))) ja_nil))) je_int) (js_one (js_ret je_bl)) js_nil)
    (js_cons (js_if (JW.jt (jw_and (jt_ne hr.u (je_var 14) (je_var 11)) (jw_and1 (jt_borrow (m1 := [.sh, .sh, .sh, .sh, .sh, .sh, .sh, .sh, .sh, .sh, .sh, .sh, .sh, .sh, .sh, .sh, .sh, .sh, .sh]) (jt_notIn hr.u (je_item (je_var 13) (je_var 14)) (je_var 15)))))) (js_one (js_ret je_bl)) js_nil)
    (js_cons (js_set 16 (je_callO (ok_Book_call T) (hr.mono (by decide)) (takes_of rfl rfl rfl rfl) (je_var 10) (ja_cons (je_var 14) (ja_cons (je_var 11) ja_nil))) sc_law.nd)
    (js_cons (js_if (JW.jt (jw_or (jt_not (jt_tr (je_isi "tuple" T.z_isinstance T.z_tuple (je_var 16)))) (jw_or (jt_gt (je_len T.z_len (ja_cons (je_var 16) ja_nil)) (je_var 2)) (jw_or (jt_ne hr.u (je_item (je_var 16) je_int) (je_var 14)) (jw_or1 (jt_ne hr.u (je_item (je_var 16) (je_neg je_int)) (je_var 11))))))) (js_one (js_ret je_bl)) js_nil)
    (js_cons (js_if (jt_gt (je_len T.z_len (ja_cons (je_share (je_lc sc_law [("k", 7)] (ji_range1 (ja_cons (je_sub (je_len T.z_len (ja_cons (je_var 16) ja_nil)) je_int) ja_nil) T.z_range) (fun _ _ _ _ _ => (jg_name 7 sc_law.nd)) (fun _ _ _ _ _ => (jts_one (jt_borrow (m1 := [.sh, .sh, .sh, .sh, .sh, .sh, .sh, .sh, .sh, .sh, .sh, .sh, .sh, .sh, .sh, .sh, .sh, .sh, .sh]) (jt_dhasnotT hr.u (je_tup (ja_cons (je_item (je_var 16) (je_var 7)) (ja_cons (je_item (je_var 16) (je_add (je_var 7) je_int)) ja_nil))) (je_var 8))))) (fun _ _ _ _ _ => (je_var 7)))) ja_nil)) je_int) (js_one (js_ret je_bl)) js_nil)
    (js_one (js_if (jt_ne hr.u (je_sum T.z_sum (ja_cons (je_share (je_lc sc_law [("k", 7)] (ji_range1 (ja_cons (je_sub (je_len T.z_len (ja_cons (je_var 16) ja_nil)) je_int) ja_nil) T.z_range) (fun _ _ _ _ _ => (jg_name 7 sc_law.nd)) (fun _ _ _ _ _ => jts_nil) (fun _ _ _ _ _ => (je_dgetOT 8 hr.u (je_tup (ja_cons (je_item (je_var 16) (je_var 7)) (ja_cons (je_item (je_var 16) (je_add (je_var 7) je_int)) ja_nil))))))) ja_nil)) (je_item (je_var 13) (je_var 14))) (js_one (js_ret je_bl)) js_nil)))))))))) (passes_of rfl)))))) (passes_of rfl))
    (js_one (js_ret je_bl))))))))))))))
end Kx
namespace Da
open PySem PySem.Spec L2
section
variable {α β γ : Type}
@[simp] theorem Res.bind_ret (r : Res α) : (r.bind fun x => .ok x) = r := by cases r <;> rfl
@[simp] theorem Res.bind_assoc (r : Res α) (f : α → Res β) (g : β → Res γ) : (r.bind f).bind g = r.bind fun x => (f x).bind g := by cases r <;> rfl
theorem mulR_of {i j : Int} (h : mulOk i j = true) : mulR i j = .ok (i * j) := if_pos h
theorem mulR_64 {i j : Int} (hi : i.natAbs < 18446744073709551616) (hj : j.natAbs < 18446744073709551616) : mulR i j = .ok (i * j) := mulR_of (mul64 hi hj)
theorem mulR_44 {i j : Int} (hi : i.natAbs < 2 ^ 4400) (hj : j.natAbs < 2 ^ 4400) : mulR i j = .ok (i * j) := mulR_of (mulOk_of (a := 4400) (b := 4400) hi hj)
theorem modR_pos {i j : Int} (h : 0 < j) : modR i j = .ok (i % j) := if_pos h
theorem divR_pos {i j : Int} (h : 0 < j) (h9 : j.natAbs < Lim) : divR i j = .ok (i / j) := if_pos ⟨h, log2_lt h9 (by decide)⟩
theorem divR_64 {i j : Int} (h : 0 < j) (h9 : j < 18446744073709551616) : divR i j = .ok (i / j) := divR_pos h (lt_lim (by omega))
theorem powR_of {i j r : Int} (h : powOk i j = true) (hr : i ^ j.toNat = r) : powR i j = .ok r := by rw [← hr]; exact if_pos h
theorem powR_18 : powR 10 18 = .ok 1000000000000000000 := powR_of (stuck_iff.mpr (by omega)) (by decide +kernel)
theorem ixR_nat {xs : List α} {i : Nat} {x : α} (h : xs[i]? = some x) : ixR xs (i : Int) = .ok x := by unfold ixR; rw [atI_nat h]
theorem ixR_of {xs : List α} {i : Int} {x : α} (h0 : 0 ≤ i) (h : xs[i.toNat]? = some x) : ixR xs i = .ok x := by
  have := ixR_nat h
  rwa [show ((i.toNat : Nat) : Int) = i by omega] at this
theorem appR_ok {xs : List α} {x : α} (h : xs.length < 1000000) : appR xs x = .ok (xs ++ [x]) := if_pos (szOk_yes h)
theorem repR_ok {xs : List α} {k : Int} (h : k < 9223372036854775808 ∧ -9223372036854775808 ≤ k) (h2 : xs.length * k.toNat ≤ 1000000) : repR xs k = .ok (List.replicate k.toNat xs).flatten := if_pos (stuck_iff.mpr ⟨by omega, szOk_yes h2⟩)
theorem setR_nat {xs : List α} {i : Nat} {x : α} (h : i < xs.length) : setR xs (i : Int) x = .ok (xs.set i x) := by
  unfold setR
  rw [show ixN xs.length (i : Int) = some i by unfold ixN; rw [if_pos (by omega), if_pos (by omega)]; simp]
theorem setR_of {xs : List α} {i : Int} {x : α} (h0 : 0 ≤ i) (h : i < xs.length) : setR xs i x = .ok (xs.set i.toNat x) := by
  have := setR_nat (xs := xs) (x := x) (i := i.toNat) (by omega)
  rwa [show ((i.toNat : Nat) : Int) = i by omega] at this
theorem popR_of {xs : List α} {i : Int} (h0 : 0 ≤ i) (h : i < xs.length) (hz : xs.length ≤ 1000000) : popR xs i = .ok (xs[i.toNat]'(by omega), xs.eraseIdx i.toNat) := by
  unfold popR
  rw [show ixN xs.length i = some i.toNat by unfold ixN; rw [if_pos h0, if_pos h]]
  simp only [List.getElem?_eq_getElem (show i.toNat < xs.length by omega), szOk_yes hz, if_true]
theorem rngI_upto {n : Nat} : rngI 0 n = upto n := by
  unfold rngI upto
  exact List.map_congr_left fun i _ => Int.zero_add _
theorem rngR_ok {j : Int} (h0 : 0 ≤ j) (h : j < 4611686018427387904) : rngR j = .ok (upto j.toNat) := by
  unfold rngR
  rw [if_pos (show rngOk 0 j = true from stuck_iff.mpr (by omega)), rngI_upto]
theorem rngR_nat {n : Nat} (h : n < 4611686018427387904) : rngR (n : Int) = .ok (upto n) := by rw [rngR_ok (by omega) (by omega)]; simp
theorem rng2R_ok {i j : Int} (h0 : -4611686018427387904 ≤ i) (h1 : i < 4611686018427387904) (h2 : -4611686018427387904 ≤ j) (h : j < 4611686018427387904) : rng2R i j = .ok (rngI i (j - i).toNat) := by
  unfold rng2R
  rw [if_pos (show rngOk i j = true from stuck_iff.mpr (by omega))]
theorem upto_get {n i : Nat} {x : Int} (h : (upto n)[i]? = some x) : x = (i : Int) ∧ i < n := by
  unfold upto at h
  rw [List.getElem?_map] at h
  cases e : (List.range n)[i]? with
  | none => rw [e] at h; cases h
  | some j =>
    rw [e] at h
    have hi := (List.getElem?_eq_some_iff.mp e).1
    rw [List.length_range] at hi
    rw [List.getElem?_range hi] at e
    cases e; cases h
    exact ⟨rfl, hi⟩
theorem rngI_get {lo : Int} {n i : Nat} {x : Int} (h : (rngI lo n)[i]? = some x) : x = lo + (i : Int) ∧ i < n := by
  unfold rngI at h
  rw [List.getElem?_map] at h
  cases e : (List.range n)[i]? with
  | none => rw [e] at h; cases h
  | some j =>
    rw [e] at h
    have hi := (List.getElem?_eq_some_iff.mp e).1
    rw [List.length_range] at hi
    rw [List.getElem?_range hi] at e
    cases e; cases h
    exact ⟨rfl, hi⟩
@[simp] theorem rngI_length {lo : Int} {n : Nat} : (rngI lo n).length = n := by unfold rngI; rw [List.length_map, List.length_range]
/-- a loop over 0 .. n - 1 -/
theorem forR_upto {σ : Type} {f : σ → Int → Res σ} {n : Nat} {s : σ} (P : Nat → σ → Prop) (h0 : P 0 s) (hs : ∀ (i : Nat) s, i < n → P i s → ∃ s', f s (i : Int) = .ok s' ∧ P (i + 1) s') : ∃ s', forR f (upto n) s = .ok s' ∧ P n s' := by
  obtain ⟨s', e, p⟩ := forR_inv (xs := upto n) (f := f) (s := s) P h0 (fun i x s hx p => by
    obtain ⟨rfl, hi⟩ := upto_get hx
    exact hs i s hi p)
  rw [upto_length] at p
  exact ⟨s', e, p⟩
@[simp] theorem forC_nil {α σ τ : Type} {f : σ → α → Res (Ctl σ τ)} {s : σ} : forC f [] s = .ok (.go s) := rfl
theorem forC_cons {α σ τ : Type} {f : σ → α → Res (Ctl σ τ)} {x : α} {xs : List α} {s : σ} : forC f (x :: xs) s = (f s x).bind fun o => match o with
    | .go s => forC f xs s
    | .out s => .ok (.go s)
    | .ret b => .ok (.ret b) := rfl
@[simp] theorem forR_nil {α σ : Type} {f : σ → α → Res σ} {s : σ} : forR f [] s = .ok s := rfl
@[simp] theorem forR_cons {α σ : Type} {f : σ → α → Res σ} {x : α} {xs : List α} {s : σ} : forR f (x :: xs) s = (f s x).bind fun s => forR f xs s := rfl
@[simp] theorem ctlS_go {σ τ : Type} {s : σ} : ctlS (.go s : Ctl σ τ) = .ok s := rfl
@[simp] theorem ctlS_out {σ τ : Type} {s : σ} : ctlS (.out s : Ctl σ τ) = .ok s := rfl
@[simp] theorem ctlK_go {σ τ γ : Type} {k : σ → Res γ} {rk : τ → γ} {s : σ} : ctlK k rk (.go s) = k s := rfl
@[simp] theorem ctlK_ret {σ τ γ : Type} {k : σ → Res γ} {rk : τ → γ} {b : τ} : ctlK k rk (.ret b : Ctl σ τ) = .ok (rk b) := rfl
theorem whileC_inv {σ τ : Type} {c : σ → Res Bool} {f : σ → Res (Ctl σ τ)} (Q : Ctl σ τ → Prop) (P : σ → Prop) (μ : σ → Nat) (hs : ∀ s, P s → ∃ b, c s = .ok b ∧ (b = false → Q (.go s)) ∧ (b = true → ∃ o, f s = .ok o ∧ (match o with
    | .go s' => P s' ∧ μ s' < μ s
    | .out s' => Q (.go s')
    | .ret b => Q (.ret b)))) : ∀ (n : Nat) (s : σ), P s → μ s < n → ∃ o, whileC c f n s = .ok o ∧ Q o
  | 0, s, _, h => absurd h (Nat.not_lt_zero _)
  | n + 1, s, p, hn => by
    obtain ⟨b, e, h1, h2⟩ := hs s p
    unfold whileC
    rw [e]
    cases b with
    | false => exact ⟨.go s, rfl, h1 rfl⟩
    | true =>
      obtain ⟨o, e2, q⟩ := h2 rfl
      dsimp only [Res.bind_ok]
      rw [if_pos rfl, e2]
      cases o with
      | go s' => exact whileC_inv Q P μ hs n s' q.1 (by have := q.2; omega)
      | out s' => exact ⟨.go s', rfl, q⟩
      | ret b => exact ⟨.ret b, rfl, q⟩
theorem enumI_eq : ∀ (xs : List α) (i : Nat), enumI i xs = (xs.zipIdx i).map fun p => ((p.2 : Int), p.1)
  | [], _ => rfl
  | x :: xs, i => by
    show ((i : Int), x) :: enumI (i + 1) xs = _
    rw [enumI_eq, List.zipIdx_cons]
    rfl
theorem enumI_at {xs : List α} {i j : Nat} {p : Int × α} (h : (enumI i xs)[j]? = some p) : p.1 = ((i + j : Nat) : Int) ∧ xs[j]? = some p.2 := by
  rw [enumI_eq, List.getElem?_map, List.getElem?_zipIdx] at h
  cases e : xs[j]? with
  | none => rw [e] at h; cases h
  | some x => rw [e] at h; cases h; exact ⟨rfl, rfl⟩
end
end Da
namespace Da
open PySem PySem.Spec L2
section
variable {α β γ : Type}
theorem forR_flat {f : List β → α → Res (List β)} {g : α → List β} {B : Nat} : ∀ {xs : List α} {s : List β}, (∀ x ∈ xs, ∀ s : List β, s.length + (g x).length ≤ B → f s x = .ok (s ++ g x)) → s.length + (xs.flatMap g).length ≤ B → forR f xs s = .ok (s ++ xs.flatMap g)
  | [], s, _, _ => by simp
  | x :: xs, s, h, hB => by
    rw [List.flatMap_cons, List.length_append] at hB
    rw [forR_cons, h x List.mem_cons_self s (by omega)]
    dsimp only [Res.bind_ok]
    rw [forR_flat (fun y hy => h y (List.mem_cons_of_mem _ hy)) (by rw [List.length_append]; omega), List.flatMap_cons, List.append_assoc]
theorem flat_one {g : α → β} : ∀ xs : List α, (xs.flatMap fun x => [g x]) = xs.map g
  | [] => rfl
  | x :: xs => by rw [List.flatMap_cons, flat_one xs]; rfl
/-- one item a turn -/
theorem forR_app {f : List β → α → Res (List β)} {g : α → β} {xs : List α} {s : List β} (h : ∀ x ∈ xs, ∀ s : List β, s.length < 1000000 → f s x = .ok (s ++ [g x])) (hB : s.length + xs.length ≤ 1000000) : forR f xs s = .ok (s ++ xs.map g) := by
  have := forR_flat (f := f) (g := fun x => [g x]) (B := 1000000) (xs := xs) (s := s) (fun x hx s hs => h x hx s (by simp at hs; omega)) (by rw [flat_one, List.length_map]; exact hB)
  rw [this, flat_one]
end
theorem In.le {L A B : Nat} {q : Rat} (h : In L A q) (hab : A ≤ B) : In L B q := by
  obtain ⟨n, e, hn⟩ := h
  exact ⟨n, e, Nat.le_trans hn hab⟩
end Da
namespace Da
open PySem PySem.Spec L2
def Tr {α : Type} (r : Res α) (Q : α → Prop) : Prop := ∃ v, r = .ok v ∧ Q v
section
variable {α β γ σ τ : Type} {r : Res α} {Q : α → Prop} {f : α → Res β} {v : α} {R : β → Prop}
theorem Tr.of (h : r = .ok v) (q : Q v) : Tr r Q := ⟨v, h, q⟩
theorem Tr.eq {r : Res α} {v : α} (h : Tr r fun x => x = v) : r = .ok v := by obtain ⟨x, e, rfl⟩ := h; exact e
theorem Tr.ok (q : Q v) : Tr (.ok v) Q := ⟨v, rfl, q⟩
theorem Tr.imp {Q' : α → Prop} (h : Tr r Q) (k : ∀ v, Q v → Q' v) : Tr r Q' := by obtain ⟨v, e, q⟩ := h; exact ⟨v, e, k v q⟩
theorem Tr.bind (h : Tr r Q) (k : ∀ v, Q v → Tr (f v) R) : Tr (r.bind f) R := by
  obtain ⟨v, e, q⟩ := h
  rw [e]
  exact k v q
/-- a step whose outcome is known -/
theorem Tr.st (h : r = .ok v) (k : Tr (f v) R) : Tr (r.bind f) R := by rw [h]; exact k
theorem Tr.nx (h : Tr r Q) : Tr (nx r) Q := by obtain ⟨v, e, q⟩ := h; rw [e]; exact ⟨v, rfl, q⟩
theorem Tr.ite {b : Bool} {r1 r2 : Res α} (h1 : b = true → Tr r1 Q) (h2 : b = false → Tr r2 Q) : Tr (if b = true then r1 else r2) Q := by
  cases b with
  | true => exact h1 rfl
  | false => exact h2 rfl
theorem Tr.itF {b : Bool} {r1 r2 : Res α} (hb : b = false) (h1 : Tr r2 Q) : Tr (if b = true then r1 else r2) Q := by rw [if_neg (by rw [hb]; exact Bool.false_ne_true)]; exact h1
theorem tr_forR {f : σ → α → Res σ} {xs : List α} {s : σ} {Q : σ → Prop} (P : Nat → σ → Prop) (h0 : P 0 s) (hs : ∀ i x s, xs[i]? = some x → P i s → Tr (f s x) (P (i + 1))) (hd : ∀ s, P xs.length s → Q s) : Tr (forR f xs s) Q := by
  obtain ⟨s', e, p⟩ := forR_inv P h0 fun i x s hx p => hs i x s hx p
  exact ⟨s', e, hd s' p⟩
theorem tr_forRn {f : σ → Int → Res σ} {n : Nat} {s : σ} {Q : σ → Prop} (P : Nat → σ → Prop) (h0 : P 0 s) (hs : ∀ (i : Nat) s, i < n → P i s → Tr (f s (i : Int)) (P (i + 1))) (hd : ∀ s, P n s → Q s) : Tr (forR f (upto n) s) Q := by
  obtain ⟨s', e, p⟩ := forR_upto P h0 fun i s hi p => hs i s hi p
  exact ⟨s', e, hd s' p⟩
theorem tr_forC {f : σ → α → Res (Ctl σ τ)} {xs : List α} {s : σ} {Q : Ctl σ τ → Prop} (P : Nat → σ → Prop) (h0 : P 0 s) (hs : ∀ i x s, xs[i]? = some x → P i s → Tr (f s x) (fun o => match o with
    | .go s' => P (i + 1) s'
    | .out s' => Q (.go s')
    | .ret b => Q (.ret b))) (hd : ∀ s, P xs.length s → Q (.go s)) : Tr (forC f xs s) Q := forC_inv Q P h0 (fun i x s hx p => hs i x s hx p) hd
/-- a search, and what comes behind it -/
theorem tr_find {f : Unit → α → Res (Ctl Unit τ)} {xs : List α} {k : Unit → Res γ} {rk : τ → γ} {Q : γ → Prop} (P : α → Prop) (R : τ → Prop) (h : ∀ x ∈ xs, Tr (f () x) fun o => (o = .go () ∧ P x) ∨ ∃ b, o = .ret b ∧ R b)
    (h1 : (∀ x ∈ xs, P x) → Tr (k ()) Q) (h2 : ∀ b, R b → Q (rk b)) : Tr ((forC f xs ()).bind (ctlK k rk)) Q := by
  induction xs with
  | nil => exact h1 fun x hx => nomatch hx
  | cons x xs ih =>
    rw [forC_cons, Res.bind_assoc]
    obtain ⟨o, e, p⟩ := h x List.mem_cons_self
    rw [e]
    rcases p with ⟨rfl, p⟩ | ⟨b, rfl, r⟩
    · exact ih (fun y hy => h y (List.mem_cons_of_mem _ hy)) fun hp => h1 fun y hy => by
        rcases List.mem_cons.mp hy with rfl | hy
        · exact p
        · exact hp y hy
    · exact ⟨_, rfl, h2 b r⟩
/-- all turns go on -/
theorem tr_all {f : Unit → α → Res (Ctl Unit τ)} {xs : List α} {k : Unit → Res γ} {rk : τ → γ} {Q : γ → Prop} (h : ∀ x ∈ xs, Tr (f () x) fun o => o = .go ()) (h1 : Tr (k ()) Q) : Tr ((forC f xs ()).bind (ctlK k rk)) Q :=
  tr_find (fun _ => True) (fun _ => False) (fun x hx => (h x hx).imp fun o e => .inl ⟨e, trivial⟩) (fun _ => h1) fun b h => h.elim
end
end Da
namespace Kx
open PySem PySem.Spec L2 Da
theorem law_cell (ns : List Int) (k : Int) (hk : 0 ≤ k) (hk2 : k < 1000000) : ∃ c : Int, N_law_cell_fi_i ns k = .ok c := by
  unfold N_law_cell_fi_i
  by_cases h : k < ns.length
  · exact ⟨ns[k.toNat], by simp [h, ixR_of (xs := ns) (x := ns[k.toNat]) hk (List.getElem?_eq_getElem (by omega))]⟩
  · obtain ⟨s, e, h1, h2⟩ := forR_inv (xs := ns) (s := (17 : Int)) (f := fun s x1 => (mulR s 31).bind fun x => Res.ok ((x + x1 % 1000003) % 1000003)) (fun _ s => 0 ≤ s ∧ s < 1000003) ⟨by omega, by omega⟩ fun i x s _ h => by
      refine ⟨_, by rw [mulR_64 (by omega) (by omega)]; rfl, ?_⟩
      omega
    have m1 : 0 ≤ (s + 7) * (k + 3) ∧ (s + 7) * (k + 3) ≤ 1000010 * 1000003 := ⟨Int.mul_nonneg (by omega) (by omega), Int.mul_le_mul (by omega) (by omega) (by omega) (by omega)⟩
    refine ⟨((s + 7) * (k + 3) * 69621) % 2147483647, ?_⟩
    simp only [Res.bind_assoc, Res.bind_ok, Res.bind_ret]
    rw [if_neg (by simpa using h), e]
    simp only [Res.bind_ok]
    rw [mulR_64 (by omega) (by omega)]
    simp only [Res.bind_ok]
    rw [mulR_64 (by omega) (by omega)]
    rfl
theorem law_digits (c : Int) (sizes : List Int) (hp : ∀ s ∈ sizes, 0 < s ∧ s < 18446744073709551616) (hz : sizes.length ≤ 100000) : ∃ row : List Int, N_law_digits_i_li c sizes = .ok row ∧ Digs sizes row := by
  unfold N_law_digits_i_li
  simp only [powR_18, Res.bind_ok, Res.bind_assoc, Res.bind_ret]
  by_cases h : 1000000000000000000 ≤ c
  · rw [if_pos (by simpa using h)]
    obtain ⟨s, e, hd⟩ := forR_inv (xs := sizes) (s := (([] : List Int), c - 1000000000000000000)) (f := fun x5 x4 => (modR x5.2 x4).bind fun x => (appR x5.1 x).bind fun x => (divR x5.2 x4).bind fun x7 => Res.ok (x, x7)) (fun n s => Digs (sizes.take n) s.1) ⟨rfl, fun i s r e => by simp at e⟩ fun i x s hx hd => by
      have hs := hp x (List.mem_of_getElem? hx)
      have hl : s.1.length ≤ 100000 := by have := hd.1; rw [List.length_take] at this; omega
      refine ⟨(s.1 ++ [s.2 % x], s.2 / x), ?_, hd.snoc hx (Int.emod_nonneg _ (by omega)) (Int.emod_lt_of_pos _ hs.1)⟩
      rw [modR_pos hs.1]; dsimp only [Res.bind_ok]; rw [appR_ok (by omega)]; dsimp only [Res.bind_ok]; rw [divR_64 hs.1 hs.2]; rfl
    rw [List.take_length] at hd
    refine ⟨s.1, ?_, hd⟩
    rw [e]; rfl
  · rw [if_neg (by simpa using h), rngR_nat (by omega)]
    dsimp only [Res.bind_ok]
    have hm := Int.emod_nonneg c (show (2147483629 : Int) ≠ 0 by decide)
    have hm2 := Int.emod_lt_of_pos c (show (0 : Int) < 2147483629 by decide)
    obtain ⟨s, e, hd, _, _⟩ := forR_upto (n := sizes.length) (s := (([] : List Int), c % 2147483629)) (f := fun x10 x9 => (mulR x10.2 48271).bind fun x => (mulR 974711 x9).bind fun x_1 => (mulR ((x + x_1 + 12345) % 2147483647) ((x + x_1 + 12345) % 2147483647 / 65537 + 3)).bind fun x_2 => (ixR sizes x9).bind fun x_3 => (modR (x_2 % 2147483629 / 19) x_3).bind fun x_4 => (appR x10.1 x_4).bind fun x_5 => Res.ok (x_5, (x + x_1 + 12345) % 2147483647))
      (fun n s => Digs (sizes.take n) s.1 ∧ 0 ≤ s.2 ∧ s.2 < 2147483647) ⟨⟨rfl, fun i s r e => by simp at e⟩, hm, by omega⟩ fun i s hi hd => by
      obtain ⟨hd, h1, h2⟩ := hd
      have e := List.getElem?_eq_getElem hi
      have hs := hp sizes[i] (List.mem_of_getElem? e)
      have hl : s.1.length ≤ 100000 := by have := hd.1; rw [List.length_take] at this; omega
      generalize hs' : (s.2 * 48271 + 974711 * (i : Int) + 12345) % 2147483647 = s'
      have b1 : 0 ≤ s' := by rw [← hs']; exact Int.emod_nonneg _ (by decide)
      have b2 : s' < 2147483647 := by rw [← hs']; exact Int.emod_lt_of_pos _ (by decide)
      have b3 : 0 ≤ s' / 65537 ∧ s' / 65537 < 40000 := by omega
      refine ⟨(s.1 ++ [s' * (s' / 65537 + 3) % 2147483629 / 19 % sizes[i]], s'), ?_, hd.snoc e (Int.emod_nonneg _ (by omega)) (Int.emod_lt_of_pos _ hs.1), b1, b2⟩
      rw [mulR_64 (by omega) (by omega)]; dsimp only [Res.bind_ok]
      rw [mulR_64 (by omega) (by omega)]; dsimp only [Res.bind_ok]
      rw [hs', mulR_64 (by omega) (by omega)]; dsimp only [Res.bind_ok]
      rw [ixR_nat e]; dsimp only [Res.bind_ok]
      rw [modR_pos hs.1]; dsimp only [Res.bind_ok]
      rw [appR_ok (by omega)]; rfl
    rw [List.take_length] at hd
    refine ⟨s.1, ?_, hd⟩
    rw [e]; rfl
theorem take_out' {L : List Int} {k : Nat} (hk : k < L.length) : (L[k] :: L.eraseIdx k).Perm L := by
  rw [List.eraseIdx_eq_take_drop_succ]
  have h := (List.perm_middle (a := L[k]) (l₁ := L.take k) (l₂ := L.drop (k + 1))).symm
  refine h.trans (List.Perm.of_eq ?_)
  rw [← List.drop_eq_getElem_cons hk, List.take_append_drop]
end Kx
namespace Kx
open PySem PySem.Spec L2 Da
theorem frozen_p (p : Int × Int) : N_frozen_piiq p = .ok p := rfl
theorem frozen_lp (r : List (Int × Int)) (h : r.length ≤ 1000000) : N_frozen_lpiiq r = .ok r := by
  unfold N_frozen_lpiiq
  rw [Res.bind_ret, lcR_map (g := fun x => x) h (fun x _ => frozen_p x), List.map_id']
end Kx
namespace Kx
open PySem PySem.Spec L2 Da
open PySem PySem.Spec L2 Da
theorem ixR_mem {α : Type} {xs : List α} {i : Int} (h0 : 0 ≤ i) (h : i < xs.length) : ∃ t, ixR xs i = .ok t ∧ t ∈ xs := ⟨xs[i.toNat]'(by omega), ixR_of h0 (List.getElem?_eq_getElem (by omega)), List.getElem_mem _⟩
end Kx
namespace Da
theorem Digs.get {sizes row : List Int} (h : Digs sizes row) {i : Nat} {s : Int} (hs : sizes[i]? = some s) : ∃ r, row[i]? = some r ∧ 0 ≤ r ∧ r < s := by
  have hi := (List.getElem?_eq_some_iff.mp hs).1
  have hi' : i < row.length := by rw [h.1]; exact hi
  exact ⟨row[i], List.getElem?_eq_getElem hi', h.2 i s _ hs (List.getElem?_eq_getElem hi')⟩
theorem Digs.ix {sizes row : List Int} (h : Digs sizes row) {i : Nat} {s : Int} (hs : sizes[i]? = some s) : ∃ r, ixR row (i : Int) = .ok r ∧ 0 ≤ r ∧ r < s := by
  obtain ⟨r, e, h⟩ := h.get hs
  exact ⟨r, ixR_nat e, h⟩
end Da
namespace Kx
open PySem PySem.Spec L2 Da
def Nd (n : Nat) (x : Int) : Prop := 0 ≤ x ∧ x < n
theorem Nd.nat {n : Nat} {x : Int} (h : Nd n x) : ∃ k : Nat, x = k ∧ k < n := ⟨x.toNat, by have := h.1; omega, by have := h.1; have := h.2; omega⟩
theorem Nd.of {n k : Nat} (h : k < n) : Nd n (k : Int) := ⟨by omega, by omega⟩
def nb (N : List (List Int)) (a : Int) : List Int := N.getD a.toNat []
structure Net0 (n : Nat) (L : List (Int × Int)) : Prop where
  pos : 0 < n
  le : n ≤ 24
  few : L.length < 64
  lk : ∀ p ∈ L, 0 ≤ p.1 ∧ p.1 < p.2 ∧ p.2 < n
  nd : L.Nodup
  srt : L.Pairwise (fun a b => leP a b = true)
  con : ∀ S : Int → Prop, S 0 → (∀ p ∈ L, S p.1 ↔ S p.2) → ∀ k, Nd n k → S k
structure Near (n : Nat) (N : List (List Int)) : Prop where
  len : N.length = n
  pos : 0 < n
  le : n ≤ 24
  rng : ∀ a b, Nd n a → b ∈ nb N a → Nd n b ∧ b ≠ a
  sym : ∀ a b, Nd n a → b ∈ nb N a → a ∈ nb N b
  few : ∀ a, (nb N a).length ≤ 1000
  con : ∀ S : Int → Prop, (∀ a b, Nd n a → b ∈ nb N a → S a → S b) → ∀ s t, Nd n s → Nd n t → S s → S t
theorem ix_nb {n : Nat} {N : List (List Int)} (h : N.length = n) {a : Int} (ha : Nd n a) : ixR N a = .ok (nb N a) := by
  obtain ⟨k, rfl, hk⟩ := ha.nat
  rw [ixR_nat (List.getElem?_eq_getElem (by omega))]
  unfold nb
  rw [List.getD_eq_getElem?_getD, Int.toNat_natCast, List.getElem?_eq_getElem (by omega)]
  rfl
def nbrs (L : List (Int × Int)) (a : Int) : List Int := L.flatMap fun p => (if p.1 = a then [p.2] else []) ++ (if p.2 = a then [p.1] else [])
def nearOf (n : Nat) (L : List (Int × Int)) : List (List Int) := (List.range n).map fun (a : Nat) => (nbrs L (a : Int)).mergeSort leI
theorem mem_nbrs {L : List (Int × Int)} {a b : Int} : b ∈ nbrs L a ↔ (a, b) ∈ L ∨ (b, a) ∈ L := by
  unfold nbrs
  rw [List.mem_flatMap]
  constructor
  · rintro ⟨⟨x, y⟩, hp, hb⟩
    rcases List.mem_append.mp hb with h | h
    · split at h
      · rename_i e
        have : b = y := by simpa using h
        subst this; cases e
        exact .inl hp
      · cases h
    · split at h
      · rename_i e
        have : b = x := by simpa using h
        subst this; cases e
        exact .inr hp
      · cases h
  · rintro (h | h)
    · exact ⟨_, h, List.mem_append_left _ (by simp)⟩
    · exact ⟨_, h, List.mem_append_right _ (by simp)⟩
theorem nbrs_len {L : List (Int × Int)} {a : Int} : (nbrs L a).length ≤ 2 * L.length := by
  unfold nbrs
  induction L with
  | nil => simp
  | cons p L ih =>
    rw [List.flatMap_cons, List.length_append, List.length_append, List.length_cons]
    have h1 : (if p.1 = a then [p.2] else []).length ≤ 1 := by split <;> simp
    have h2 : (if p.2 = a then [p.1] else []).length ≤ 1 := by split <;> simp
    omega
theorem nb_nearOf {n : Nat} {L : List (Int × Int)} {a : Int} (ha : Nd n a) : nb (nearOf n L) a = (nbrs L a).mergeSort leI := by
  obtain ⟨k, rfl, hk⟩ := ha.nat
  unfold nb nearOf
  rw [List.getD_eq_getElem?_getD, Int.toNat_natCast, List.getElem?_map, List.getElem?_range hk]
  rfl
theorem nearOf_len {n : Nat} {L : List (Int × Int)} : (nearOf n L).length = n := by unfold nearOf; rw [List.length_map, List.length_range]
theorem mem_nearOf {n : Nat} {L : List (Int × Int)} {a b : Int} (ha : Nd n a) : b ∈ nb (nearOf n L) a ↔ (a, b) ∈ L ∨ (b, a) ∈ L := by
  rw [nb_nearOf ha, List.mem_mergeSort, mem_nbrs]
theorem nb_off {N : List (List Int)} {a : Int} (h : N.length ≤ a.toNat) : nb N a = [] := by
  unfold nb
  rw [List.getD_eq_getElem?_getD, List.getElem?_eq_none_iff.mpr h]
  rfl
theorem Net0.near {n : Nat} {L : List (Int × Int)} (h : Net0 n L) : Near n (nearOf n L) := by
  have hin : ∀ a b, Nd n a → b ∈ nb (nearOf n L) a → Nd n b ∧ b ≠ a := fun a b ha hb => by
    rcases (mem_nearOf ha).mp hb with z | z
    · obtain ⟨z1, z2, z3⟩ : 0 ≤ a ∧ a < b ∧ b < n := h.lk _ z
      exact ⟨⟨by omega, z3⟩, by omega⟩
    · obtain ⟨z1, z2, z3⟩ : 0 ≤ b ∧ b < a ∧ a < n := h.lk _ z
      exact ⟨⟨z1, by omega⟩, by omega⟩
  refine ⟨nearOf_len, h.pos, h.le, hin, fun a b ha hb => ?_, fun a => ?_, fun S hS s t hs ht ss => ?_⟩
  · rw [mem_nearOf (hin a b ha hb).1]
    exact ((mem_nearOf ha).mp hb).symm
  · by_cases hl : a.toNat < n
    · have : nb (nearOf n L) a = nb (nearOf n L) ((a.toNat : Nat) : Int) := by unfold nb; rw [Int.toNat_natCast]
      rw [this, nb_nearOf (Nd.of hl), List.length_mergeSort]
      have := nbrs_len (L := L) (a := ((a.toNat : Nat) : Int))
      have := h.few
      omega
    · rw [nb_off (by rw [nearOf_len]; omega)]
      simp
  · have h0 : Nd n 0 := ⟨by omega, by have := h.pos; omega⟩
    have key : ∀ k, Nd n k → (S k ↔ S 0) := h.con (fun k => S k ↔ S 0) Iff.rfl fun p hp => by
      have hl := h.lk p hp
      have i1 : Nd n p.1 := ⟨hl.1, by omega⟩
      have i2 : Nd n p.2 := ⟨by omega, hl.2.2⟩
      have e : S p.1 ↔ S p.2 := ⟨hS p.1 p.2 i1 ((mem_nearOf i1).mpr (.inl hp)), hS p.2 p.1 i2 ((mem_nearOf i2).mpr (.inr hp))⟩
      rw [e]
    exact (key t ht).mpr ((key s hs).mp ss)
theorem app2_map {n : Nat} {f : Nat → List Int} {z : Nat} {x : Int} (hz : z < n) (hl : (f z).length < 1000000) : app2R ((List.range n).map f) (z : Int) x = .ok ((List.range n).map fun a => if a = z then f a ++ [x] else f a) := by
  unfold app2R
  rw [List.length_map, List.length_range, show ixN n (z : Int) = some z by unfold ixN; rw [if_pos (by omega), if_pos (by omega)]; simp]
  simp only [List.getElem?_map, List.getElem?_range hz, Option.map_some]
  rw [if_pos (szOk_yes hl)]
  congr 1
  refine List.ext_getElem? fun i => ?_
  rw [List.getElem?_set, List.getElem?_map]
  by_cases hi : i < n
  · rw [List.getElem?_range hi]
    by_cases h : z = i
    · subst h
      rw [if_pos rfl, if_pos (by simpa using hz), List.getElem?_map, List.getElem?_range hz]
      simp
    · rw [if_neg h, List.getElem?_map, List.getElem?_range hi]
      simp [show ¬ i = z from fun e => h e.symm]
  · rw [List.getElem?_eq_none_iff.mpr (by simp; omega)]
    by_cases h : z = i
    · omega
    · rw [if_neg h, List.getElem?_eq_none_iff.mpr (by simp; omega)]
      rfl
theorem near_loop {n : Nat} {L : List (Int × Int)} (hl : ∀ p ∈ L, 0 ≤ p.1 ∧ p.1 < p.2 ∧ p.2 < n) (hz : L.length < 64) : forR (fun x4 x5 => (app2R x4 x5.1 x5.2).bind fun x6 => app2R x6 x5.2 x5.1) L ((List.range n).map fun _ => []) = .ok ((List.range n).map fun (a : Nat) => nbrs L (a : Int)) := by
  obtain ⟨s, e, p⟩ := forR_inv (xs := L) (s := (List.range n).map fun _ => ([] : List Int)) (f := fun x4 (x5 : Int × Int) => (app2R x4 x5.1 x5.2).bind fun x6 => app2R x6 x5.2 x5.1) (fun i s => s = (List.range n).map fun (a : Nat) => nbrs (L.take i) (a : Int)) (by rw [List.take_zero]; rfl) fun i x s hx hs => by
    subst hs
    have hi := (List.getElem?_eq_some_iff.mp hx).1
    have hp := hl x (List.mem_of_getElem? hx)
    obtain ⟨a, b⟩ := x
    obtain ⟨q1, q2, q3⟩ : 0 ≤ a ∧ a < b ∧ b < n := hp
    obtain ⟨a, rfl⟩ : ∃ k : Nat, a = k := ⟨a.toNat, by omega⟩
    obtain ⟨b, rfl⟩ : ∃ k : Nat, b = k := ⟨b.toNat, by omega⟩
    have h1 : a < b := by omega
    have h2 : b < n := by omega
    have hb : ∀ c : Int, (nbrs (L.take i) c).length ≤ 126 := fun c => by
      have := nbrs_len (L := L.take i) (a := c)
      rw [List.length_take] at this
      omega
    refine ⟨_, ?_, rfl⟩
    show (app2R _ (a : Int) (b : Int)).bind _ = _
    rw [app2_map (by omega) (by have := hb a; omega)]
    dsimp only [Res.bind_ok]
    rw [app2_map h2 (by rw [if_neg (by omega)]; have := hb b; omega)]
    congr 1
    refine List.map_congr_left fun c _ => ?_
    rw [List.take_succ, hx]
    unfold nbrs
    rw [List.flatMap_append]
    show _ = _ ++ ((if (a : Int) = c then [(b : Int)] else []) ++ (if (b : Int) = c then [(a : Int)] else []) ++ [])
    by_cases e1 : c = b
    · rw [if_pos e1, if_neg (by omega), if_neg (by omega), if_pos (by omega)]; simp
    · rw [if_neg e1]
      by_cases e2 : c = a
      · rw [if_pos e2, if_pos (by omega), if_neg (by omega)]; simp
      · rw [if_neg e2, if_neg (by omega), if_neg (by omega)]; simp
  rw [List.take_length] at p
  rw [e, p]
theorem empties {n : Nat} (hn : n ≤ 24) : ((rngR (n : Int)).bind fun x2 => lcR x2 (fun x1 => Res.ok true) (fun x1 => (Res.ok ([] : List Int)))) = .ok ((List.range n).map fun _ => []) := by
  rw [rngR_nat (by omega)]
  dsimp only [Res.bind_ok]
  rw [lcR_map (g := fun _ => []) (by rw [upto_length]; omega) fun x _ => rfl]
  congr 1
  unfold upto
  rw [List.map_map]
  rfl
theorem law_near {n : Nat} {L : List (Int × Int)} (h : Net0 n L) : N_law_near_i_lpiiq n L = .ok (nearOf n L) := by
  unfold N_law_near_i_lpiiq
  simp only [Res.bind_ret]
  rw [empties h.le]
  dsimp only [Res.bind_ok]
  rw [near_loop h.lk h.few]
  dsimp only [Res.bind_ok]
  refine (lcR_map (g := fun x : List Int => x.mergeSort leI) (by rw [List.length_map, List.length_range]; have := h.le; omega) fun x _ => rfl).trans ?_
  unfold nearOf
  rw [List.map_map]
  rfl
theorem near_nodes {n : Nat} {L : List (Int × Int)} (h : Net0 n L) : N_near_nodes_i_tpiiq n L = .ok (nearOf n L) := by
  unfold N_near_nodes_i_tpiiq
  simp only [Res.bind_ret]
  rw [empties h.le]
  dsimp only [Res.bind_ok]
  rw [near_loop h.lk h.few]
  dsimp only [Res.bind_ok]
  refine (lcR_map (g := fun x : List Int => x.mergeSort leI) (by rw [List.length_map, List.length_range]; have := h.le; omega) fun x _ => rfl).trans ?_
  unfold nearOf
  rw [List.map_map]
  rfl
theorem is_link {n : Nat} {p : Int × Int} (h : 0 ≤ p.1 ∧ p.1 < p.2 ∧ p.2 < n) : N_is_link_i_piiq n p = .ok true := by
  unfold N_is_link_i_piiq
  rw [if_neg (by simp; omega)]
  rw [lcR_map (g := fun x => (decide (0 ≤ x)) && (decide (x < (n : Int)))) (by simp) fun x _ => rfl]
  dsimp only [Res.bind_ok]
  congr 1
  simp
  omega
theorem onceI_nd : ∀ {xs : List Int}, xs.Nodup → onceI xs = xs
  | [], _ => rfl
  | x :: xs, h => by
    obtain ⟨h1, h2⟩ := List.nodup_cons.mp h
    unfold onceI
    rw [if_neg h1, onceI_nd h2]
theorem sortP_id {L : List (Int × Int)} (h : ∀ p ∈ L, P64 p) (nd : L.Nodup) (srt : L.Pairwise (fun a b => leP a b = true)) : sortP L = L := by
  unfold sortP
  have e : ∀ p ∈ L, dcP (cdP p) = p := fun p hp => dc_cd (h p hp)
  have ed : (L.map cdP).map dcP = L := by
    rw [List.map_map]
    exact (List.map_congr_left (g := fun p => p) fun p hp => e p hp).trans (List.map_id' L)
  have nd2 : (L.map cdP).Nodup := by
    refine List.pairwise_map.mpr (nd.imp_of_mem fun {a b} ha hb hab z => hab ?_)
    rw [← e a ha, ← e b hb, z]
  rw [onceI_nd nd2, List.mergeSort_of_pairwise, ed]
  rw [List.pairwise_map]
  refine srt.imp_of_mem fun {a b} ha hb hab => ?_
  have h1 := h a ha
  have h2 := h b hb
  unfold leP at hab
  unfold leI cdP
  unfold P64 at h1 h2
  simp only [decide_eq_true_eq] at hab ⊢
  omega
theorem checked_links {n : Nat} {L : List (Int × Int)} (h : Net0 n L) : N_checked_links_i_tpiiq n L = .ok L := by
  unfold N_checked_links_i_tpiiq
  have h64 : ∀ p ∈ L, P64 p := fun p hp => by
    have := h.lk p hp
    have := h.le
    exact ⟨by omega, by omega, by omega, by omega⟩
  have e1 : forR (fun (x1 : Unit) (x2 : Int × Int × Int) => ((N_is_link_i_piiq n x2.2).bind fun x3 => Res.ok (!x3)).bind fun x4 => if x4 = true then (Res.ex "BadLink" [("index", D.int x2.1)]) else Res.ok ()) (enumI 0 L) () = .ok () := by
    obtain ⟨s, e, _⟩ := forR_inv (xs := enumI 0 L) (s := ()) (f := fun (x1 : Unit) (x2 : Int × Int × Int) => ((N_is_link_i_piiq n x2.2).bind fun x3 => Res.ok (!x3)).bind fun x4 => if x4 = true then (Res.ex "BadLink" [("index", D.int x2.1)]) else Res.ok ()) (fun _ _ => True) trivial fun i x s hx _ => by
      obtain ⟨k, y⟩ := x
      have hy : y ∈ L := List.mem_of_getElem? (enumI_at hx).2
      refine ⟨(), ?_, trivial⟩
      show ((N_is_link_i_piiq n y).bind fun x3 => Res.ok (!x3)).bind _ = _
      rw [is_link (h.lk y hy)]
      rfl
    exact e
  rw [e1]
  dsimp only [Res.bind_ok]
  rw [lcR_map (g := fun p => p) (by have := h.few; omega) fun p hp => by
    have := h.lk p hp
    rw [if_neg (by omega), if_pos (by omega)]]
  rw [List.map_id']
  dsimp only [Res.bind_ok]
  unfold sortPR
  rw [if_pos ⟨List.all_eq_true.mpr fun p hp => decide_eq_true (h64 p hp), h.few⟩, sortP_id h64 h.nd h.srt]
  rfl
end Kx
namespace Kx
open PySem PySem.Spec L2 Da
theorem tr_while {σ τ : Type} {c : σ → Res Bool} {f : σ → Res (Ctl σ τ)} {s : σ} {Q : Ctl σ τ → Prop} (P : σ → Prop) (μ : σ → Nat) (h0 : P s) (hn : μ s < 1000000)
    (hc : ∀ s, P s → Tr (c s) fun b => (b = false → Q (.go s)) ∧ (b = true → Tr (f s) fun o => match o with
    | .go s' => P s' ∧ μ s' < μ s
    | .out s' => Q (.go s')
    | .ret b => Q (.ret b))) : Tr (whileC c f FUEL s) Q :=
  whileC_inv Q P μ (fun s p => by
    obtain ⟨b, e, h1, h2⟩ := hc s p
    exact ⟨b, e, h1, fun hb => h2 hb⟩) FUEL s h0 (by unfold FUEL; omega)
def kn (K : List Bool) (x : Int) : Bool := K.getD x.toNat false
theorem ix_kn {n : Nat} {K : List Bool} (h : K.length = n) {x : Int} (hx : Nd n x) : ixR K x = .ok (kn K x) := by
  obtain ⟨k, rfl, hk⟩ := hx.nat
  rw [ixR_nat (List.getElem?_eq_getElem (by omega))]
  unfold kn
  rw [List.getD_eq_getElem?_getD, Int.toNat_natCast, List.getElem?_eq_getElem (by omega)]
  rfl
theorem kn_set {n : Nat} {K : List Bool} (h : K.length = n) {x y : Int} (hx : Nd n x) : kn (K.set x.toNat true) y = if x.toNat = y.toNat then true else kn K y := by
  unfold kn
  have := hx.1
  have := hx.2
  rw [List.getD_eq_getElem?_getD, List.getD_eq_getElem?_getD, List.getElem?_set]
  split
  · rw [if_pos (by omega)]; rfl
  · rfl
structure Vis (n : Nat) (K : List Bool) (W : List Int) (c : Bool) (x : Int) (s : List Bool × List Int) : Prop where
  len : s.1.length = n
  mono : ∀ y, kn K y = true → kn s.1 y = true
  new : ∀ y, Nd n y → kn s.1 y = true → kn K y = true ∨ y ∈ s.2
  keep : ∀ w ∈ W, w ∈ s.2
  src : ∀ w ∈ s.2, w ∈ W ∨ (w = x ∧ kn s.1 x = true)
  hit : c = true → kn s.1 x = true
  mu : 2 * s.1.count false + s.2.length ≤ 2 * K.count false + W.length
theorem visit {n : Nat} {K : List Bool} {W : List Int} {c : Bool} {x : Int} (hK : K.length = n) (hx : Nd n x) (hW : W.length < 1000000) :
    Tr ((if c = true then (ixR K x).bind fun x18 => Res.ok (!x18) else Res.ok false).bind fun x21 => if x21 = true then (setR K x true).bind fun x19 => (appR W x).bind fun x20 => Res.ok (x19, x20) else Res.ok (K, W)) (Vis n K W c x) := by
  have same : (c = true → kn K x = true) → Vis n K W c x (K, W) := fun h => ⟨hK, fun y z => z, fun y _ z => .inl z, fun w z => z, fun w z => .inl z, h, Nat.le_refl _⟩
  cases c with
  | false => exact Tr.ok (same fun z => nomatch z)
  | true =>
    rw [if_pos rfl, ix_kn hK hx]
    dsimp only [Res.bind_ok]
    cases hk : kn K x with
    | true => exact Tr.ok (same fun _ => hk)
    | false =>
      have hx0 := hx.1
      have hx1 := hx.2
      show Tr (if (!false) = true then _ else _) _
      rw [if_pos (by decide), setR_of hx.1 (by omega)]
      dsimp only [Res.bind_ok]
      rw [appR_ok hW]
      refine Tr.ok ⟨by rw [List.length_set]; exact hK, fun y z => ?_, fun y hy z => ?_, fun w z => List.mem_append_left _ z, fun w z => ?_, fun _ => ?_, ?_⟩
      · rw [kn_set hK hx]; split
        · rfl
        · exact z
      · rw [kn_set hK hx] at z
        split at z
        · rename_i e
          have := hy.1
          exact .inr (List.mem_append_right _ (List.mem_singleton.mpr (by omega)))
        · exact .inl z
      · rcases List.mem_append.mp z with z | z
        · exact .inl z
        · refine .inr ⟨List.mem_singleton.mp z, ?_⟩
          rw [kn_set hK hx, if_pos rfl]
      · rw [kn_set hK hx, if_pos rfl]
      · have hl : x.toNat < K.length := by omega
        have e : K[x.toNat] = false := by
          unfold kn at hk
          rw [List.getD_eq_getElem?_getD, List.getElem?_eq_getElem hl] at hk
          exact hk
        have hp : 0 < K.count false := List.count_pos_iff.mpr (by rw [← e]; exact List.getElem_mem hl)
        have hc : (K.set x.toNat true).count false = K.count false - 1 := by
          rw [List.count_set hl, e]
          simp
        show 2 * (K.set x.toNat true).count false + (W ++ [x]).length ≤ _
        rw [hc, List.length_append, List.length_singleton]
        omega
structure DfsP (n : Nat) (L : List (Int × Int)) (s : List Bool × List Int) : Prop where
  len : s.1.length = n
  wt : ∀ w ∈ s.2, Nd n w ∧ kn s.1 w = true
  zero : kn s.1 0 = true
  cl1 : ∀ p ∈ L, kn s.1 p.1 = true → p.1 ∈ s.2 ∨ kn s.1 p.2 = true
  cl2 : ∀ p ∈ L, kn s.1 p.2 = true → p.2 ∈ s.2 ∨ kn s.1 p.1 = true
  mu : 2 * s.1.count false + s.2.length ≤ 100
theorem bind_eq {α β : Type} {r : Res α} {v : α} {f : α → Res β} {Q : β → Prop} (h : r = .ok v) (k : Tr (f v) Q) : Tr (r.bind f) Q := by rw [h]; exact k
theorem reached {n : Nat} {L : List (Int × Int)} (h : Net0 n L) : Tr (N_reached_i_tpiiq_i n L 0) fun r => r = upto n := by
  have hn := h.le
  have hp := h.pos
  unfold N_reached_i_tpiiq_i
  have hl : (List.replicate n false).length = n := List.length_replicate
  have z0 : Nd n 0 := ⟨by omega, by omega⟩
  refine bind_eq (v := List.replicate n false) ?_ ?_
  · rw [rngR_nat (by omega)]
    refine (lcR_map (g := fun _ => false) (by rw [upto_length]; omega) fun x _ => rfl).trans ?_
    rw [List.map_const', upto_length]
  refine bind_eq (setR_of (by omega) (by rw [hl]; omega)) ?_
  have st : DfsP n L ((List.replicate n false).set (0 : Int).toNat true, [0]) := by
    have ek : ∀ y, kn ((List.replicate n false).set (0 : Int).toNat true) y = true → y.toNat = 0 := fun y hy => by
      rw [kn_set hl z0] at hy
      split at hy
      · rename_i e; exact e.symm
      · unfold kn at hy
        rw [List.getD_eq_getElem?_getD, List.getElem?_replicate] at hy
        split at hy <;> cases hy
    refine ⟨by rw [List.length_set, hl], fun w hw => ?_, ?_, fun p hp hk => ?_, fun p hp hk => ?_, ?_⟩
    · have : w = 0 := by simpa using hw
      rw [this]
      exact ⟨z0, by rw [kn_set hl z0, if_pos rfl]⟩
    · rw [kn_set hl z0, if_pos rfl]
    · have := ek _ hk
      have := h.lk p hp
      exact .inl (List.mem_singleton.mpr (by omega))
    · have := ek _ hk
      have := h.lk p hp
      exact .inl (List.mem_singleton.mpr (by omega))
    · have := List.count_le_length (a := false) (l := (List.replicate n false).set (0 : Int).toNat true)
      rw [List.length_set, hl] at this
      show 2 * ((List.replicate n false).set (0 : Int).toNat true).count false + 1 ≤ 100
      omega
  refine Tr.bind (Q := fun s : List Bool × List Int => DfsP n L s ∧ s.2 = []) (Tr.bind (Q := fun o => ∃ s : List Bool × List Int, o = Ctl.go s ∧ DfsP n L s ∧ s.2 = []) (tr_while (DfsP n L) (fun s => 2 * s.1.count false + s.2.length) st (by have := st.mu; omega) ?_) ?_) ?_
  · rintro ⟨K, W⟩ hs
    refine Tr.ok ⟨fun he => ⟨_, rfl, hs, by simpa using he⟩, fun he => ?_⟩
    have hW : W ≠ [] := by simpa using he
    have hlast : W[W.length - 1]? = some (W.getLast hW) := by
      rw [← List.getLast?_eq_getElem?, List.getLast?_eq_some_getLast hW]
    have ew : W = W.dropLast ++ [W.getLast hW] := (List.dropLast_concat_getLast hW).symm
    have ep : pop0R W = .ok (W.getLast hW, W.dropLast) := by unfold pop0R; rw [hlast]
    refine bind_eq (v := (W.getLast hW, W.dropLast)) (by rw [ep]; rfl) ?_
    generalize W.getLast hW = v at *
    generalize W.dropLast = W2 at *
    have mu := hs.mu
    have len := hs.len
    have wt := hs.wt
    dsimp only at mu len wt
    have hvW : v ∈ W := by rw [ew]; simp
    have lw : W.length = W2.length + 1 := by rw [ew]; simp
    have hb := List.count_le_length (a := false) (l := K)
    refine Tr.bind (Q := fun s : List Bool × List Int => s.1.length = n ∧ (∀ w ∈ s.2, Nd n w ∧ kn s.1 w = true) ∧ (∀ y, kn K y = true → kn s.1 y = true) ∧ (∀ y, Nd n y → kn s.1 y = true → kn K y = true ∨ y ∈ s.2) ∧ (∀ w ∈ W2, w ∈ s.2) ∧ (∀ p ∈ L, (p.1 = v → kn s.1 p.2 = true) ∧ (p.2 = v → kn s.1 p.1 = true)) ∧ 2 * s.1.count false + s.2.length ≤ 2 * K.count false + W2.length)
      (tr_forR (fun i (s : List Bool × List Int) => s.1.length = n ∧ (∀ w ∈ s.2, Nd n w ∧ kn s.1 w = true) ∧ (∀ y, kn K y = true → kn s.1 y = true) ∧ (∀ y, Nd n y → kn s.1 y = true → kn K y = true ∨ y ∈ s.2) ∧ (∀ w ∈ W2, w ∈ s.2) ∧ (∀ p ∈ L.take i, (p.1 = v → kn s.1 p.2 = true) ∧ (p.2 = v → kn s.1 p.1 = true)) ∧ 2 * s.1.count false + s.2.length ≤ 2 * K.count false + W2.length) ?_ ?_ ?_) ?_
    · exact ⟨len, fun w hw => wt w (by rw [ew]; exact List.mem_append_left _ hw), fun y z => z, fun y _ z => .inl z, fun w z => z, fun p hp => by simp at hp, Nat.le_refl _⟩
    · rintro i p ⟨K1, W1⟩ hx ⟨h1, h2, h3, h4, h5, h6, h7⟩
      dsimp only at h1 h2 h3 h4 h5 h6 h7
      have hpL := List.mem_of_getElem? hx
      have hl := h.lk p hpL
      have n1 : Nd n p.1 := ⟨hl.1, by omega⟩
      have n2 : Nd n p.2 := ⟨by omega, hl.2.2⟩
      refine Tr.bind (visit (c := decide (p.1 = v)) h1 n2 (W := W1) (by omega)) ?_
      rintro ⟨K2, W2'⟩ q1
      have m1 := q1.mu
      dsimp only at m1
      refine Tr.bind (visit (c := decide (p.2 = v)) q1.len n1 (W := W2') (by omega)) ?_
      rintro ⟨K3, W3⟩ q2
      have m2 := q2.mu
      dsimp only at m2
      refine Tr.ok ⟨q2.len, fun w hw => ?_, fun y z => q2.mono y (q1.mono y (h3 y z)), fun y hy z => ?_, fun w hw => q2.keep w (q1.keep w (h5 w hw)), fun r hr => ?_, by dsimp only; omega⟩
      · rcases q2.src w hw with z | ⟨rfl, z⟩
        · rcases q1.src w z with z1 | ⟨z2, z1⟩
          · exact ⟨(h2 w z1).1, q2.mono w (q1.mono w (h2 w z1).2)⟩
          · exact ⟨by rw [z2]; exact n2, by rw [z2]; exact q2.mono _ z1⟩
        · exact ⟨n1, z⟩
      · rcases q2.new y hy z with z | z
        · rcases q1.new y hy z with z | z
          · rcases h4 y hy z with z | z
            · exact .inl z
            · exact .inr (q2.keep y (q1.keep y z))
          · exact .inr (q2.keep y z)
        · exact .inr z
      · rw [List.take_succ, hx] at hr
        rcases List.mem_append.mp hr with z | z
        · exact ⟨fun e => q2.mono _ (q1.mono _ ((h6 r z).1 e)), fun e => q2.mono _ (q1.mono _ ((h6 r z).2 e))⟩
        · have : r = p := by simpa using z
          subst this
          exact ⟨fun e => q2.mono _ (q1.hit (decide_eq_true e)), fun e => q2.hit (decide_eq_true e)⟩
    · rintro s ⟨a1, a2, a3, a4, a5, a6, a7⟩
      rw [List.take_length] at a6
      exact ⟨a1, a2, a3, a4, a5, a6, a7⟩
    · rintro ⟨K', W'⟩ ⟨a1, a2, a3, a4, a5, a6, a7⟩
      dsimp only at a1 a2 a3 a4 a5 a6 a7
      refine Tr.ok ⟨⟨a1, a2, a3 0 hs.zero, fun p hp hk => ?_, fun p hp hk => ?_, by dsimp only; omega⟩, by dsimp only; omega⟩
      · have hl := h.lk p hp
        have n1 : Nd n p.1 := ⟨hl.1, by omega⟩
        rcases a4 p.1 n1 hk with z | z
        · rcases hs.cl1 p hp z with z | z
          · dsimp only at z
            rw [ew] at z
            rcases List.mem_append.mp z with z | z
            · exact .inl (a5 _ z)
            · exact .inr ((a6 p hp).1 (List.mem_singleton.mp z))
          · exact .inr (a3 _ z)
        · exact .inl z
      · have hl := h.lk p hp
        have n2 : Nd n p.2 := ⟨by omega, hl.2.2⟩
        rcases a4 p.2 n2 hk with z | z
        · rcases hs.cl2 p hp z with z | z
          · dsimp only at z
            rw [ew] at z
            rcases List.mem_append.mp z with z | z
            · exact .inl (a5 _ z)
            · exact .inr ((a6 p hp).2 (List.mem_singleton.mp z))
          · exact .inr (a3 _ z)
        · exact .inl z
  · rintro o ⟨s, rfl, p, e⟩
    exact Tr.ok ⟨p, e⟩
  · rintro ⟨K, W⟩ ⟨p, e⟩
    dsimp only at e
    subst e
    have all : ∀ k, Nd n k → kn K k = true := h.con (fun k => kn K k = true) p.zero fun q hq => by
      have c1 := p.cl1 q hq
      have c2 := p.cl2 q hq
      dsimp only at c1 c2
      exact ⟨fun z => (c1 z).resolve_left (fun z => nomatch z), fun z => (c2 z).resolve_left (fun z => nomatch z)⟩
    refine bind_eq (v := upto n) ?_ (Tr.ok rfl)
    rw [rngR_nat (by omega)]
    refine (lcR_filter (p := fun _ => true) (g := fun x => x) (by rw [upto_length]; omega) (fun x hx => ?_) fun x _ _ => rfl).trans ?_
    · show ixR K x = _
      rw [ix_kn p.len (mem_upto.mp hx), all x (mem_upto.mp hx)]
    · rw [List.filter_eq_self.mpr fun _ _ => rfl, List.map_id']
def lanesOf (n : Nat) (N : List (List Int)) : List (Int × Int) := (upto n).flatMap fun a => (nb N a).map fun b => (a, b)
theorem lanes_len {n : Nat} {N : List (List Int)} (h : Near n N) : (lanesOf n N).length ≤ 24000 := by
  have key : ∀ xs : List Int, ((xs.flatMap fun a => (nb N a).map fun b => (a, b)).length) ≤ xs.length * 1000 := fun xs => by
    induction xs with
    | nil => simp
    | cons x xs ih =>
      rw [List.flatMap_cons, List.length_append, List.length_map, List.length_cons]
      have := h.few x
      omega
  have := key (upto n)
  rw [upto_length] at this
  have := h.le
  unfold lanesOf
  omega
theorem lc2_flat {α β γ : Type} {xs : List α} {i1 : α → Res (List β)} {f : α → β → Res γ} {g : α → List β} {k : α → β → γ} (h1 : ∀ x ∈ xs, i1 x = .ok (g x)) (h2 : ∀ x ∈ xs, ∀ y ∈ g x, f x y = .ok (k x y)) (hz : (xs.flatMap fun x => (g x).map (k x)).length ≤ 1000000) :
    lc2R xs (fun _ => .ok true) i1 (fun _ _ => .ok true) f = .ok (xs.flatMap fun x => (g x).map (k x)) := by
  have inner : ∀ (x : α) (ys : List β), (∀ y ∈ ys, f x y = .ok (k x y)) → lcR.go (fun _ => .ok true) (f x) ys = .ok (ys.map (k x)) := fun x ys => by
    induction ys with
    | nil => exact fun _ => rfl
    | cons y ys ih =>
      intro h
      unfold lcR.go
      rw [h y List.mem_cons_self, ih fun z hz => h z (List.mem_cons_of_mem _ hz)]
      rfl
  have outer : ∀ ws : List α, (∀ x ∈ ws, x ∈ xs) → lc2R.go (fun _ => .ok true) i1 (fun _ _ => .ok true) f ws = .ok (ws.flatMap fun x => (g x).map (k x)) := fun ws => by
    induction ws with
    | nil => exact fun _ => rfl
    | cons w ws ih =>
      intro h
      have hw := h w List.mem_cons_self
      unfold lc2R.go
      rw [h1 w hw, ih fun z hz => h z (List.mem_cons_of_mem _ hz)]
      show (Res.ok true).bind _ = _
      dsimp only [Res.bind_ok, nx_ok]
      rw [if_pos rfl, inner w (g w) (h2 w hw)]
      rfl
  unfold lc2R
  rw [outer xs fun x h => h]
  dsimp only [Res.bind_ok]
  rw [if_pos (szOk_yes hz)]
theorem lanes_of {n : Nat} {N : List (List Int)} (h : Near n N) : N_lanes_of_tti N = .ok (lanesOf n N) := by
  unfold N_lanes_of_tti
  rw [h.len, rngR_nat (by have := h.le; omega)]
  simp only [Res.bind_ret, Res.bind_ok]
  exact lc2_flat (fun x hx => ix_nb h.len (mem_upto.mp hx)) (fun x _ y _ => rfl) (by have := lanes_len h; unfold lanesOf at this; omega)
theorem law_lanes {n : Nat} {N : List (List Int)} (h : Near n N) : N_law_lanes_lli N = .ok (lanesOf n N) := by
  unfold N_law_lanes_lli
  rw [h.len, rngR_nat (by have := h.le; omega)]
  simp only [Res.bind_ret, Res.bind_ok]
  have hl := lanes_len h
  unfold lanesOf at hl
  have := forR_flat (f := fun x1 x2 => (ixR N x2).bind fun x6 => forR (fun x3 x4 => appR x3 (x2, x4)) x6 x1) (g := fun a => (nb N a).map fun b => (a, b)) (B := 1000000) (xs := upto n) (s := []) (fun x hx s hs => by
    rw [List.length_map] at hs
    show (ixR N x).bind _ = _
    rw [ix_nb h.len (mem_upto.mp hx)]
    dsimp only [Res.bind_ok]
    exact forR_app (g := fun b => (x, b)) (fun y _ s hs => appR_ok hs) (by omega)) (by simp only [List.length_nil]; omega)
  rw [List.nil_append] at this
  exact this
abbrev NetV := Int × List (Int × Int) × List (List Int) × List (Int × Int)
def netV (n : Nat) (L : List (Int × Int)) : NetV := ((n : Int), L, nearOf n L, lanesOf n (nearOf n L))
theorem frozen_l (L : List (Int × Int)) (h : L.length ≤ 1000000) : N_frozen_lpiiq L = .ok L := frozen_lp L h
theorem net_init {n : Nat} {L : List (Int × Int)} (h : Net0 n L) : N_Net_init_i_lpiiq n L = .ok (netV n L) := by
  have hn := h.le
  have hp := h.pos
  unfold N_Net_init_i_lpiiq
  rw [if_neg (by simp; omega)]
  rw [frozen_l L (by have := h.few; omega)]
  dsimp only [Res.bind_ok]
  rw [checked_links h]
  dsimp only [Res.bind_ok]
  rw [near_nodes h]
  dsimp only [Res.bind_ok]
  rw [lanes_of h.near]
  dsimp only [Res.bind_ok]
  rw [(reached h).eq]
  dsimp only [Res.bind_ok]
  rw [rngR_nat (by omega)]
  dsimp only [Res.bind_ok]
  obtain ⟨s, e, _⟩ := forR_inv (xs := upto n) (s := ()) (f := fun (x7 : Unit) (x8 : Int) => if (!decide (x8 ∈ upto n)) = true then (Res.ex "NotConnected" [("node", D.int x8)]) else Res.ok ()) (fun _ _ => True) trivial fun i x s hx _ => by
    exact ⟨(), by rw [if_neg (by simp [List.mem_of_getElem? hx])], trivial⟩
  rw [e]
  rfl
end Kx
namespace Kx
open PySem PySem.Spec L2 Da
theorem nodup_le {n : Nat} {r : List Int} (nd : r.Nodup) (rg : ∀ x ∈ r, Nd n x) : r.length ≤ n := by
  have := nd.length_le_of_subset (l₂ := upto n) fun x hx => mem_upto.mpr (rg x hx)
  rwa [upto_length] at this
theorem ix_last {α : Type} {r : List α} {x : α} (h : r.getLast? = some x) (hz : r.length < 1000000) : ixR r (-1) = .ok x := by
  have hr : r ≠ [] := by intro e; rw [e] at h; cases h
  have hl : 0 < r.length := List.length_pos_iff.mpr hr
  unfold ixR atI ixN
  rw [if_neg (by omega), if_pos (by omega)]
  rw [List.getLast?_eq_getElem?] at h
  show (match r[(-1 + (r.length : Int)).toNat]? with | some x => Res.ok x | none => .er) = _
  rw [show (-1 + (r.length : Int)).toNat = r.length - 1 by omega, h]
theorem ix_head {α : Type} {r : List α} {x : α} (h : r.head? = some x) : ixR r 0 = .ok x := by
  cases r with
  | nil => cases h
  | cons y r => cases h; exact ixR_nat (i := 0) rfl
/-- each node is followed by a neighbor -/
def Stp (N : List (List Int)) (r : List Int) : Prop := ∀ (i : Nat) a b, r[i]? = some a → r[i + 1]? = some b → b ∈ nb N a
structure Rt (n : Nat) (N : List (List Int)) (u v : Int) (r : List Int) : Prop where
  hd : r.head? = some u
  la : r.getLast? = some v
  nd : r.Nodup
  rg : ∀ x ∈ r, Nd n x
  st : Stp N r
theorem Rt.len {n : Nat} {N : List (List Int)} {u v : Int} {r : List Int} (h : Rt n N u v r) : r.length ≤ n := nodup_le h.nd h.rg
theorem Rt.ne {n : Nat} {N : List (List Int)} {u v : Int} {r : List Int} (h : Rt n N u v r) : r ≠ [] := fun e => by have := h.hd; rw [e] at this; cases this
theorem Stp.one {N : List (List Int)} {x : Int} : Stp N [x] := fun i a b h1 h2 => by simp at h2
theorem Stp.snoc {N : List (List Int)} {r : List Int} {a b : Int} (h : Stp N r) (hl : r.getLast? = some a) (hb : b ∈ nb N a) : Stp N (r ++ [b]) := fun i x y h1 h2 => by
  by_cases hi : i + 1 < r.length
  · rw [List.getElem?_append_left (by omega)] at h1 h2
    exact h i x y h1 h2
  · have hlt := (List.getElem?_eq_some_iff.mp h2).1
    rw [List.length_append, List.length_singleton] at hlt
    have e : i + 1 = r.length := by omega
    rw [e, List.getElem?_concat_length] at h2
    rw [List.getElem?_append_left (by omega)] at h1
    rw [List.getLast?_eq_getElem?, show r.length - 1 = i by omega, h1] at hl
    cases h2; cases hl
    exact hb
def lanesR (r : List Int) : List (Int × Int) := (List.range (r.length - 1)).map fun (k : Nat) => (r.getD k 0, r.getD (k + 1) 0)
theorem frozen_t (r : List Int) (h : r.length ≤ 1000000) : N_frozen_ti r = .ok r := by
  unfold N_frozen_ti
  simp only [Res.bind_ret]
  exact (lcR_map (g := fun x => x) h fun x _ => rfl).trans (by rw [List.map_id'])
theorem frozen_lt (r : List (List Int)) (h : r.length ≤ 1000000) (h2 : ∀ x ∈ r, x.length ≤ 1000000) : N_frozen_lti r = .ok r := by
  unfold N_frozen_lti
  simp only [Res.bind_ret]
  exact (lcR_map (g := fun x => x) h fun x hx => frozen_t x (h2 x hx)).trans (by rw [List.map_id'])
theorem frozen_llt (r : List (List (List Int))) (h : r.length ≤ 1000000) (h2 : ∀ x ∈ r, x.length ≤ 1000000) (h3 : ∀ x ∈ r, ∀ y ∈ x, y.length ≤ 1000000) : N_frozen_llti r = .ok r := by
  unfold N_frozen_llti
  simp only [Res.bind_ret]
  exact (lcR_map (g := fun x => x) h fun x hx => frozen_lt x (h2 x hx) (h3 x hx)).trans (by rw [List.map_id'])
theorem getD_at {r : List Int} {k : Nat} (h : k < r.length) : r[k]? = some (r.getD k 0) := by
  rw [List.getD_eq_getElem?_getD, List.getElem?_eq_getElem h]; rfl
theorem route_lanes {r : List Int} (h0 : r ≠ []) (h : r.length ≤ 1000000) : N_route_lanes_ti r = .ok (lanesR r) := by
  have hl : 0 < r.length := List.length_pos_iff.mpr h0
  unfold N_route_lanes_ti
  simp only [Res.bind_ret]
  rw [show (r.length : Int) - 1 = ((r.length - 1 : Nat) : Int) by omega, rngR_nat (by omega)]
  dsimp only [Res.bind_ok]
  refine (lcR_map (g := fun x => (r.getD x.toNat 0, r.getD (x.toNat + 1) 0)) (by rw [upto_length]; omega) fun x hx => ?_).trans ?_
  · obtain ⟨k, rfl, hk⟩ := Nd.nat (mem_upto.mp hx)
    rw [ixR_nat (getD_at (by omega)), show (k : Int) + 1 = ((k + 1 : Nat) : Int) by omega]
    dsimp only [Res.bind_ok]
    rw [ixR_nat (getD_at (by omega))]
    rfl
  · unfold lanesR upto
    rw [List.map_map]
    rfl
theorem Rt.lane {n : Nat} {N : List (List Int)} {u v : Int} {r : List Int} (h : Rt n N u v r) {p : Int × Int} (hp : p ∈ lanesR r) : Nd n p.1 ∧ Nd n p.2 ∧ p.2 ∈ nb N p.1 := by
  obtain ⟨k, hk, rfl⟩ := List.mem_map.mp hp
  have hk := List.mem_range.mp hk
  have e1 := getD_at (r := r) (k := k) (by omega)
  have e2 := getD_at (r := r) (k := k + 1) (by omega)
  exact ⟨h.rg _ (List.mem_of_getElem? e1), h.rg _ (List.mem_of_getElem? e2), h.st k _ _ e1 e2⟩
theorem is_route {n : Nat} {L : List (Int × Int)} (hn : Net0 n L) {u v : Int} {r : List Int} (h : Rt n (nearOf n L) u v r) : N_is_route_cNetitpiiqttitpiiqq_ti_i_i (netV n L) r u v = .ok true := by
  have hlen := h.len
  have hle := hn.le
  unfold N_is_route_cNetitpiiqttitpiiqq_ti_i_i
  rw [frozen_t r (by omega)]
  dsimp only [Res.bind_ok]
  have e0 : (!(!r.isEmpty)) = false := by
    cases hr : r with
    | nil => exact absurd hr h.ne
    | cons x r => rfl
  rw [if_neg (by rw [e0]; decide)]
  rw [lcR_map (g := fun _ => true) (by omega) fun x hx => by
    have := h.rg x hx
    show Res.ok ((decide (0 ≤ x)) && (decide (x < (n : Int)))) = _
    rw [decide_eq_true this.1, decide_eq_true this.2]
    rfl]
  dsimp only [Res.bind_ok]
  have ea : (r.map fun _ => true).all id = true := List.all_eq_true.mpr fun b hb => by
    obtain ⟨x, _, rfl⟩ := List.mem_map.mp hb
    rfl
  rw [ea]
  rw [if_neg (by decide)]
  rw [ix_head h.hd]
  dsimp only [Res.bind_ok]
  rw [show (!decide (u = u)) = false by simp, if_neg (by decide)]
  rw [ix_last h.la (by omega)]
  dsimp only [Res.bind_ok]
  rw [show (!decide (v = v)) = false by simp, if_neg (by decide)]
  have ed : lenSetR r = .ok (r.length : Int) := by
    unfold lenSetR
    rw [if_pos (by omega), dedupI_nodup.mpr h.nd]
  rw [ed]
  dsimp only [Res.bind_ok]
  rw [show (!decide ((r.length : Int) = (r.length : Int))) = false by simp]
  rw [if_neg (by decide), route_lanes h.ne (by omega)]
  dsimp only [Res.bind_ok]
  rw [lcR_map (g := fun _ => true) (by unfold lanesR; rw [List.length_map, List.length_range]; omega) fun p hp => by
    obtain ⟨h1, h2, h3⟩ := h.lane hp
    show (ixR (nearOf n L) p.1).bind _ = _
    rw [ix_nb nearOf_len h1]
    show Res.ok (decide (p.2 ∈ nb (nearOf n L) p.1)) = _
    rw [decide_eq_true h3]]
  dsimp only [Res.bind_ok]
  rw [List.all_eq_true.mpr fun b hb => by
    obtain ⟨x, _, rfl⟩ := List.mem_map.mp hb
    rfl]
def rtAt (R : List (List (List Int))) (u v : Nat) : List Int := (R.getD u []).getD v []
/-- rows of routes -/
structure Rows (n : Nat) (N : List (List Int)) (R : List (List (List Int))) : Prop where
  len : R.length = n
  row : ∀ (u : Nat), u < n → (R.getD u []).length = n
  rt : ∀ (u v : Nat), u < n → v < n → Rt n N u v (rtAt R u v)
theorem getD_some {α : Type} {xs : List α} {d : α} {i : Nat} (h : i < xs.length) : xs[i]? = some (xs.getD i d) := by
  rw [List.getD_eq_getElem?_getD, List.getElem?_eq_getElem h]; rfl
theorem mem_getD {α : Type} {xs : List α} {d x : α} (h : x ∈ xs) : ∃ i, i < xs.length ∧ x = xs.getD i d := by
  obtain ⟨i, hi⟩ := List.mem_iff_getElem?.mp h
  have hl := (List.getElem?_eq_some_iff.mp hi).1
  refine ⟨i, hl, ?_⟩
  rw [getD_some (d := d) hl] at hi
  cases hi
  rfl
theorem Rows.ix {n : Nat} {N : List (List Int)} {R : List (List (List Int))} (h : Rows n N R) {u v : Nat} (hu : u < n) (hv : v < n) : ((ixR R (u : Int)).bind fun x => ixR x (v : Int)) = .ok (rtAt R u v) := by
  rw [ixR_nat (getD_some (d := []) (by rw [h.len]; exact hu))]
  dsimp only [Res.bind_ok]
  rw [ixR_nat (getD_some (d := []) (by rw [h.row u hu]; exact hv))]
  rfl
theorem Rows.small {n : Nat} {N : List (List Int)} {R : List (List (List Int))} (h : Rows n N R) (hn : n ≤ 24) : R.length ≤ 1000000 ∧ (∀ x ∈ R, x.length ≤ 1000000) ∧ ∀ x ∈ R, ∀ y ∈ x, y.length ≤ 1000000 := by
  refine ⟨by have := h.len; omega, fun x hx => ?_, fun x hx y hy => ?_⟩
  · obtain ⟨u, hu, rfl⟩ := mem_getD (d := []) hx
    rw [h.len] at hu
    have := h.row u hu
    omega
  · obtain ⟨u, hu, rfl⟩ := mem_getD (d := []) hx
    rw [h.len] at hu
    obtain ⟨v, hv, rfl⟩ := mem_getD (d := []) hy
    rw [h.row u hu] at hv
    have := (h.rt u v hu hv).len
    unfold rtAt at this
    omega
theorem book_init {n : Nat} {L : List (Int × Int)} (hn : Net0 n L) {R : List (List (List Int))} (h : Rows n (nearOf n L) R) : N_Book_init_cNetitpiiqttitpiiqq_llti (netV n L) R = .ok (netV n L, R) := by
  have hle := hn.le
  obtain ⟨s1, s2, s3⟩ := h.small hle
  unfold N_Book_init_cNetitpiiqttitpiiqq_llti N_checked_routes_cNetitpiiqttitpiiqq_llti
  dsimp only [Res.bind_ok]
  rw [frozen_llt R s1 s2 s3]
  dsimp only [Res.bind_ok]
  show (((rngR (n : Int)).bind _).bind _).bind _ = _
  rw [rngR_nat (by omega)]
  dsimp only [Res.bind_ok]
  refine (Tr.bind (Q := fun x => x = R) (Tr.bind (Q := fun _ => True) (tr_forRn (fun _ _ => True) trivial (fun u _ hu _ => ?_) fun _ _ => trivial) fun _ _ => Tr.ok rfl) fun x hx => by subst hx; exact Tr.ok rfl).eq
  refine Tr.bind (Q := fun _ => True) (Tr.st (rngR_nat (by omega)) (tr_forRn (fun _ _ => True) trivial (fun v _ hv _ => ?_) fun _ _ => trivial)) fun _ _ => Tr.ok trivial
  refine bind_eq (v := false) ?_ (Tr.ok trivial)
  rw [h.ix hu hv]
  dsimp only [Res.bind_ok]
  rw [is_route hn (h.rt u v hu hv)]
  rfl
end Kx
namespace Kx
open PySem PySem.Spec L2 Da
section
variable {n : Nat} {N : List (List Int)}
theorem nb_len (h : Near n N) (a : Int) : (nb N a).length ≤ 1000000 := by have := h.few a; omega
/-- a route under way to v -/
structure Fr (n : Nat) (N : List (List Int)) (u v : Int) (i : Nat) (r : List Int) : Prop where
  len : r.length = i + 1
  hd : r.head? = some u
  nd : r.Nodup
  rg : ∀ x ∈ r, Nd n x
  st : Stp N r
theorem Fr.one {u v : Int} (hu : Nd n u) : Fr n N u v 0 [u] := ⟨rfl, rfl, by simp, fun x hx => by rw [List.mem_singleton.mp hx]; exact hu, Stp.one⟩
theorem Fr.last {u v : Int} {i : Nat} {r : List Int} (h : Fr n N u v i r) : ∃ a, r.getLast? = some a ∧ Nd n a ∧ a ∈ r := by
  have hr : r ≠ [] := fun e => by have := h.len; rw [e] at this; simp at this
  exact ⟨r.getLast hr, List.getLast?_eq_some_getLast hr, h.rg _ (List.getLast_mem hr), List.getLast_mem hr⟩
theorem Fr.done {u v : Int} {i : Nat} {r : List Int} (h : Fr n N u v i r) (hl : r.getLast? = some v) : Rt n N u v r := ⟨h.hd, hl, h.nd, h.rg, h.st⟩
theorem Fr.snoc {u v : Int} {i : Nat} {r : List Int} {a b : Int} (hN : Near n N) (h : Fr n N u v i r) (hl : r.getLast? = some a) (hb : b ∈ nb N a) (hr : b ∉ r) : Fr n N u v (i + 1) (r ++ [b]) := by
  have ha : a ∈ r := List.mem_of_getLast? hl
  refine ⟨by rw [List.length_append, h.len]; rfl, ?_, ?_, fun x hx => ?_, h.st.snoc hl hb⟩
  · have := h.hd
    cases r with
    | nil => cases this
    | cons x r => exact this
  · rw [List.nodup_append]
    exact ⟨h.nd, by simp, fun x hx y hy e => hr (by rw [← List.mem_singleton.mp hy, ← e]; exact hx)⟩
  · rcases List.mem_append.mp hx with z | z
    · exact h.rg x z
    · rw [List.mem_singleton.mp z]
      exact (hN.rng a b (h.rg a ha) hb).1
theorem Fr.full {u v : Int} {r : List Int} (h : Fr n N u v n r) : False := by
  have := nodup_le h.nd h.rg
  have := h.len
  omega
end
end Kx
namespace Kx
open PySem PySem.Spec L2 Da
def at0 (D : List Int) (x : Int) : Int := D.getD x.toNat 0
def dst (row : List (Option Int)) (x : Int) : Option Int := row.getD x.toNat none
section
variable {n : Nat} {N : List (List Int)}
theorem ix_dst {row : List (Option Int)} (h : row.length = n) {x : Int} (hx : Nd n x) : ixR row x = .ok (dst row x) := by
  obtain ⟨k, rfl, hk⟩ := hx.nat
  rw [ixR_nat (getD_some (d := none) (by omega))]
  unfold dst
  rw [Int.toNat_natCast]
theorem dst_set {row : List (Option Int)} (h : row.length = n) {x y : Int} (hx : Nd n x) (hy : Nd n y) (v : Option Int) : dst (row.set x.toNat v) y = if x = y then v else dst row y := by
  have := hx.1
  have := hx.2
  have := hy.1
  unfold dst
  rw [List.getD_eq_getElem?_getD, List.getD_eq_getElem?_getD, List.getElem?_set]
  by_cases e : x = y
  · subst e
    rw [if_pos rfl, if_pos rfl, if_pos (by omega)]; rfl
  · rw [if_neg e, if_neg (by omega)]
end
end Kx
namespace Kx
open PySem PySem.Spec L2 Da
section
variable {n : Nat} {N : List (List Int)}
/-- a route under way: the potential falls -/
structure Dr (n : Nat) (N : List (List Int)) (P : Int → Int) (u v : Int) (i : Nat) (r : List Int) : Prop where
  fr : Fr n N u v i r
  lo : ∀ a, r.getLast? = some a → ∀ x ∈ r, P a ≤ P x
theorem Dr.one {P : Int → Int} {u v : Int} (hu : Nd n u) : Dr n N P u v 0 [u] := ⟨Fr.one hu, fun a ha x hx => by cases ha; rw [List.mem_singleton.mp hx]; exact Int.le_refl _⟩
theorem Dr.snoc {P : Int → Int} {u v : Int} {i : Nat} {r : List Int} {a b : Int} (hN : Near n N) (h : Dr n N P u v i r) (hl : r.getLast? = some a) (hb : b ∈ nb N a) (hp : P b < P a) : Dr n N P u v (i + 1) (r ++ [b]) := by
  have hr : b ∉ r := fun m => by have := h.lo a hl b m; omega
  refine ⟨h.fr.snoc hN hl hb hr, fun c hc x hx => ?_⟩
  rw [List.getLast?_concat] at hc
  cases hc
  rcases List.mem_append.mp hx with z | z
  · have := h.lo a hl x z; omega
  · rw [List.mem_singleton.mp z]; exact Int.le_refl _
theorem at_some {D : List Int} (h : D.length = n) {x : Int} (hx : Nd n x) : ixR (D.map some) x = .ok (some (at0 D x)) := by
  obtain ⟨k, rfl, hk⟩ := hx.nat
  refine ixR_nat ?_
  rw [List.getElem?_map, getD_some (d := 0) (by omega)]
  unfold at0
  rw [Int.toNat_natCast]
  rfl
/-- a walk from x to the goal of this price -/
inductive Wk (N : List (List Int)) (p : Int → Int → Int) (g : Int) : Nat → Int → Int → Prop
  | nil : Wk N p g 0 g 0
  | step {k : Nat} {x c w : Int} (h : c ∈ nb N x) (t : Wk N p g k c w) : Wk N p g (k + 1) x (p x c + w)
/-- the same without coming back -/
inductive Ws (N : List (List Int)) (p : Int → Int → Int) (g : Int) : List Int → Int → Int → Prop
  | nil : Ws N p g [g] g 0
  | step {r : List Int} {x c w : Int} (h : c ∈ nb N x) (hr : x ∉ r) (t : Ws N p g r c w) : Ws N p g (x :: r) x (p x c + w)
theorem Ws.wk {p : Int → Int → Int} {g : Int} : ∀ {r : List Int} {x w : Int}, Ws N p g r x w → Wk N p g (r.length - 1) x w ∧ r ≠ []
  | _, _, _, .nil => ⟨.nil, by simp⟩
  | _, _, _, .step (x := x) (r := r) h hr t => by
    obtain ⟨k, ne⟩ := Ws.wk t
    have hl : 0 < r.length := List.length_pos_iff.mpr ne
    refine ⟨?_, by simp⟩
    have : (x :: r).length - 1 = (r.length - 1) + 1 := by rw [List.length_cons]; omega
    rw [this]
    exact .step h k
theorem Ws.mem {p : Int → Int → Int} {g : Int} : ∀ {r : List Int} {x w : Int}, Ws N p g r x w → r.Nodup ∧ x ∈ r
  | _, _, _, .nil => ⟨by simp, by simp⟩
  | _, _, _, .step h hr t => ⟨List.nodup_cons.mpr ⟨hr, (Ws.mem t).1⟩, by simp⟩
theorem Ws.rg (hN : Near n N) {p : Int → Int → Int} {g : Int} (hg : Nd n g) : ∀ {r : List Int} {x w : Int}, Ws N p g r x w → Nd n x → ∀ y ∈ r, Nd n y
  | _, _, _, .nil, _ => fun y hy => by rw [List.mem_singleton.mp hy]; exact hg
  | _, _, _, .step h hr t, hx => fun y hy => by
    rcases List.mem_cons.mp hy with z | z
    · rw [z]; exact hx
    · exact Ws.rg hN hg t (hN.rng _ _ hx h).1 y z
/-- from a later node on -/
theorem Ws.cut {p : Int → Int → Int} {g : Int} (hp : ∀ x c, 0 ≤ p x c) : ∀ {r : List Int} {x w : Int}, Ws N p g r x w → ∀ y ∈ r, ∃ r' w', Ws N p g r' y w' ∧ w' ≤ w
  | _, _, _, .nil => fun y hy => by rw [List.mem_singleton.mp hy]; exact ⟨_, _, .nil, Int.le_refl _⟩
  | _, _, _, .step (x := x) (c := c) h hr t => fun y hy => by
    rcases List.mem_cons.mp hy with z | z
    · rw [z]; exact ⟨_, _, .step h hr t, Int.le_refl _⟩
    · obtain ⟨r', w', h1, h2⟩ := Ws.cut hp t y z
      have := hp x c
      exact ⟨r', w', h1, by omega⟩
theorem Wk.simple {p : Int → Int → Int} {g : Int} (hp : ∀ x c, 0 ≤ p x c) : ∀ {k : Nat} {x w : Int}, Wk N p g k x w → ∃ r w', Ws N p g r x w' ∧ w' ≤ w
  | _, _, _, .nil => ⟨_, _, .nil, Int.le_refl _⟩
  | _, _, _, .step (x := x) (c := c) h t => by
    obtain ⟨r, w', h1, h2⟩ := Wk.simple hp t
    by_cases hx : x ∈ r
    · obtain ⟨r', w'', h3, h4⟩ := Ws.cut hp h1 x hx
      have := hp x c
      exact ⟨r', w'', h3, by omega⟩
    · exact ⟨_, _, .step h hx h1, by omega⟩
/-- as short as there are nodes -/
theorem Wk.short (hN : Near n N) {p : Int → Int → Int} {g : Int} (hp : ∀ x c, 0 ≤ p x c) (hg : Nd n g) {k : Nat} {x w : Int} (hx : Nd n x) (t : Wk N p g k x w) : ∃ j w', j < n ∧ Wk N p g j x w' ∧ w' ≤ w := by
  obtain ⟨r, w', h1, h2⟩ := t.simple hp
  obtain ⟨h3, h4⟩ := h1.wk
  have hl := nodup_le h1.mem.1 (h1.rg hN hg hx)
  have : 0 < r.length := List.length_pos_iff.mpr h4
  exact ⟨r.length - 1, w', by omega, h3, h2⟩
theorem Near.wk (h : Near n N) {p : Int → Int → Int} {g x : Int} (hg : Nd n g) (hx : Nd n x) : ∃ k w, Wk N p g k x w :=
  h.con (fun y => ∃ k w, Wk N p g k y w) (fun a b ha hb ⟨k, w, t⟩ => ⟨k + 1, _, .step (h.sym a b ha hb) t⟩) g x hg hx ⟨0, 0, .nil⟩
/-- the prices of the lanes stand in a dict -/
def Priced (n : Nat) (N : List (List Int)) (d : List ((Int × Int) × Int)) (p : Int → Int → Int) : Prop := (∀ x c, 1 ≤ p x c ∧ 0 ≤ p x c) ∧ ∀ x c, Nd n x → c ∈ nb N x → dgetN d (x, c) = .ok (p x c)
structure Heights (n : Nat) (N : List (List Int)) (p : Int → Int → Int) (g : Int) (D : List Int) : Prop where
  len : D.length = n
  zero : at0 D g = 0
  nn : ∀ x, Nd n x → 0 ≤ at0 D x
  le : ∀ x c, Nd n x → c ∈ nb N x → at0 D x ≤ p x c + at0 D c
  prd : ∀ x, Nd n x → x ≠ g → ∃ c, c ∈ nb N x ∧ at0 D x = p x c + at0 D c
end
end Kx
namespace Kx
open PySem PySem.Spec L2 Da
section
variable {n : Nat} {N : List (List Int)}
/-- sound entries -/
structure Sd (n : Nat) (N : List (List Int)) (p : Int → Int → Int) (g : Int) (row : List (Option Int)) : Prop where
  len : row.length = n
  zero : dst row g = some 0
  snd : ∀ x, Nd n x → ∀ d, dst row x = some d → ∃ k, Wk N p g k x d
theorem Wk.nn {p : Int → Int → Int} {g : Int} (hp : ∀ x c, 0 ≤ p x c) : ∀ {k : Nat} {x w : Int}, Wk N p g k x w → 0 ≤ w
  | _, _, _, .nil => Int.le_refl _
  | _, _, _, .step (x := x) (c := c) h t => by
    have := Wk.nn hp t
    have := hp x c
    omega
def Le (n : Nat) (r' r : List (Option Int)) : Prop := ∀ x, Nd n x → ∀ d, dst r x = some d → ∃ e, dst r' x = some e ∧ e ≤ d
theorem Le.rfl {r : List (Option Int)} : Le n r r := fun x _ d h => ⟨d, h, Int.le_refl _⟩
theorem Le.tr {a b c : List (Option Int)} (h : Le n a b) (k : Le n b c) : Le n a c := fun x hx d e => by
  obtain ⟨e1, h1, l1⟩ := k x hx d e
  obtain ⟨e2, h2, l2⟩ := h x hx e1 h1
  exact ⟨e2, h2, by omega⟩
/-- the edge is not too long -/
def Ok (p : Int → Int → Int) (r r0 : List (Option Int)) (x c : Int) : Prop := ∀ d, dst r0 c = some d → ∃ e, dst r x = some e ∧ e ≤ p x c + d
theorem Ok.le {p : Int → Int → Int} {r r' r0 : List (Option Int)} {x c : Int} (hx : Nd n x) (h : Ok p r r0 x c) (l : Le n r' r) : Ok p r' r0 x c := fun d hd => by
  obtain ⟨e, h1, h2⟩ := h d hd
  obtain ⟨e', h3, h4⟩ := l x hx e h1
  exact ⟨e', h3, by omega⟩
theorem Ok.le0 {p : Int → Int → Int} {r r0 r1 : List (Option Int)} {x c : Int} (hc : Nd n c) (h : Ok p r r1 x c) (l : Le n r1 r0) : Ok p r r0 x c := fun d hd => by
  obtain ⟨e, h1, h2⟩ := l c hc d hd
  obtain ⟨e', h3, h4⟩ := h e h1
  exact ⟨e', h3, by omega⟩
theorem heights (h : Near n N) {d : List ((Int × Int) × Int)} {p : Int → Int → Int} (hd : Priced n N d p) {g : Int} (hg : Nd n g) : Tr (N_law_heights_lli_mpiiqiq_i N d g) fun row => ∃ D : List Int, row = D.map some ∧ Heights n N p g D := by
  have hn := h.le
  have hp := h.pos
  have p0 : ∀ x c, 0 ≤ p x c := fun x c => by have := (hd.1 x c).1; omega
  unfold N_law_heights_lli_mpiiqiq_i
  rw [h.len]
  have hl : (List.replicate n (none : Option Int)).length = n := List.length_replicate
  have hnone : ∀ x, dst (List.replicate n (none : Option Int)) x = none := fun x => by
    unfold dst
    rw [List.getD_eq_getElem?_getD, List.getElem?_replicate]
    split <;> rfl
  refine bind_eq (v := List.replicate n none) ?_ ?_
  · rw [rngR_nat (by omega)]
    refine (lcR_map (g := fun _ => none) (by rw [upto_length]; omega) fun x _ => rfl).trans ?_
    rw [List.map_const', upto_length]
  refine bind_eq (setR_of hg.1 (by rw [hl]; exact hg.2)) ?_
  have st : Sd n N p g ((List.replicate n none).set g.toNat (some 0)) := by
    refine ⟨by rw [List.length_set, hl], by rw [dst_set hl hg hg, if_pos rfl], fun x hx d e => ?_⟩
    rw [dst_set hl hg hx] at e
    by_cases ex : g = x
    · rw [if_pos ex] at e
      cases e
      subst ex
      exact ⟨0, .nil⟩
    · rw [if_neg ex, hnone] at e
      cases e
  rw [rngR_nat (by omega)]
  refine Tr.bind (Q := fun row => Sd n N p g row ∧ ∀ x, Nd n x → ∀ k w, k ≤ n → Wk N p g k x w → ∃ d, dst row x = some d ∧ d ≤ w) (Tr.bind (Tr.ok rfl) fun L hL => ?_) ?_
  · subst hL
    refine tr_forRn (fun t row => Sd n N p g row ∧ ∀ x, Nd n x → ∀ k w, k ≤ t → Wk N p g k x w → ∃ d, dst row x = some d ∧ d ≤ w) ⟨st, fun x hx k w hk t => ?_⟩ ?_ fun s hs => hs
    · have : k = 0 := by omega
      subst this
      cases t
      exact ⟨0, st.zero, Int.le_refl _⟩
    · rintro t row0 ht ⟨hS, hC⟩
      refine Tr.bind (Q := fun row => Sd n N p g row ∧ Le n row row0 ∧ ∀ x, Nd n x → ∀ c ∈ nb N x, Ok p row row0 x c) (Tr.bind (Tr.ok rfl) fun L hL => ?_) ?_
      · subst hL
        refine tr_forRn (fun i row => Sd n N p g row ∧ Le n row row0 ∧ ∀ x, Nd n x → x < (i : Int) → ∀ c ∈ nb N x, Ok p row row0 x c) ⟨hS, Le.rfl, fun x hx hi => by have := hx.1; omega⟩ ?_ ?_
        · rintro i row1 hi ⟨hS1, hL1, hO1⟩
          have hin : Nd n (i : Int) := Nd.of hi
          refine Tr.bind (Q := fun row => Sd n N p g row ∧ Le n row row1 ∧ ∀ c ∈ nb N (i : Int), Ok p row row1 (i : Int) c) (bind_eq (ix_nb h.len hin) ?_) ?_
          · refine tr_forR (fun k row => Sd n N p g row ∧ Le n row row1 ∧ ∀ c ∈ (nb N (i : Int)).take k, Ok p row row1 (i : Int) c) ⟨hS1, Le.rfl, fun c hc => by simp at hc⟩ ?_ ?_
            · rintro k c row hc ⟨hS2, hL2, hO2⟩
              have hcm := List.mem_of_getElem? hc
              have hcn := (h.rng _ c hin hcm).1
              have ext : ∀ y ∈ (nb N (i : Int)).take (k + 1), y ∈ (nb N (i : Int)).take k ∨ y = c := fun y hy => by
                rw [List.take_succ, hc] at hy
                rcases List.mem_append.mp hy with z | z
                · exact .inl z
                · exact .inr (by simpa using z)
              refine Tr.bind (Q := fun row' => Sd n N p g row' ∧ Le n row' row1 ∧ ∀ c ∈ (nb N (i : Int)).take (k + 1), Ok p row' row1 (i : Int) c) ?_ fun s hs => Tr.ok hs
              rw [ix_dst hS2.len hcn, ix_dst hS2.len hin]
              dsimp only [Res.bind_ok]
              rw [hd.2 _ _ hin hcm]
              dsimp only [Res.bind_ok]
              have stay : Ok p row row (i : Int) c → Sd n N p g row ∧ Le n row row1 ∧ ∀ y ∈ (nb N (i : Int)).take (k + 1), Ok p row row1 (i : Int) y := fun hk => ⟨hS2, hL2, fun y hy => (ext y hy).elim (hO2 y) fun e => by rw [e]; exact hk.le0 hcn hL2⟩
              cases ec : dst row c with
              | none => exact Tr.ok (stay fun d hd => by rw [ec] at hd; cases hd)
              | some dc =>
                have put : (∀ d, dst row (i : Int) = some d → p (i : Int) c + dc < d) → Sd n N p g (row.set (i : Int).toNat (some (p (i : Int) c + dc))) ∧ Le n (row.set (i : Int).toNat (some (p (i : Int) c + dc))) row1 ∧ ∀ y ∈ (nb N (i : Int)).take (k + 1), Ok p (row.set (i : Int).toNat (some (p (i : Int) c + dc))) row1 (i : Int) y := fun hlt => by
                  have hx' := hS2.snd c hcn dc ec
                  obtain ⟨kk, wk⟩ := hx'
                  have h0 := wk.nn p0
                  have hpp := (hd.1 (i : Int) c).1
                  have ngi : (i : Int) ≠ g := fun e => by have := hlt 0 (by rw [e]; exact hS2.zero); omega
                  have le : Le n (row.set (i : Int).toNat (some (p (i : Int) c + dc))) row := fun x hx d e => by
                    rw [dst_set hS2.len hin hx]
                    by_cases ex : (i : Int) = x
                    · rw [if_pos ex]
                      refine ⟨_, rfl, ?_⟩
                      rw [← ex] at e
                      have := hlt d e
                      omega
                    · rw [if_neg ex]
                      exact ⟨d, e, Int.le_refl _⟩
                  refine ⟨⟨by rw [List.length_set]; exact hS2.len, by rw [dst_set hS2.len hin hg, if_neg ngi]; exact hS2.zero, fun x hx d e => ?_⟩, le.tr hL2, fun y hy => ?_⟩
                  · rw [dst_set hS2.len hin hx] at e
                    by_cases ex : (i : Int) = x
                    · rw [if_pos ex] at e
                      cases e
                      subst ex
                      exact ⟨_, .step hcm wk⟩
                    · rw [if_neg ex] at e
                      exact hS2.snd x hx d e
                  · rcases ext y hy with z | z
                    · exact (hO2 y z).le hin le
                    · subst z
                      refine Ok.le0 hcn (r1 := row) (fun d hd => ?_) hL2
                      rw [ec] at hd
                      cases hd
                      refine ⟨p (i : Int) y + dc, by rw [dst_set hS2.len hin hin, if_pos rfl], Int.le_refl _⟩
                have res : (setR row (i : Int) (some (p (i : Int) c + dc))) = .ok (row.set (i : Int).toNat (some (p (i : Int) c + dc))) := setR_of hin.1 (by rw [hS2.len]; exact hin.2)
                cases ei : dst row (i : Int) with
                | none => exact bind_eq (v := true) rfl <| bind_eq res (Tr.ok (put fun d hd => by rw [ei] at hd; cases hd))
                | some di =>
                  by_cases hlt : p (i : Int) c + dc < di
                  · refine bind_eq (v := true) (by show Res.ok (decide (p (i : Int) c + dc < di)) = _; rw [decide_eq_true hlt]) ?_
                    exact bind_eq res (Tr.ok (put fun d hd => by rw [ei] at hd; cases hd; exact hlt))
                  · refine bind_eq (v := false) (by show Res.ok (decide (p (i : Int) c + dc < di)) = _; rw [decide_eq_false hlt]) ?_
                    exact Tr.ok (stay fun d hd => by rw [ec] at hd; cases hd; exact ⟨di, ei, by omega⟩)
            · rintro row ⟨a, b, c⟩
              exact ⟨a, b, by rw [List.take_length] at c; exact c⟩
          · rintro row ⟨a, b, c⟩
            refine Tr.ok ⟨a, b.tr hL1, fun x hx hxi y hy => ?_⟩
            by_cases ex : x = (i : Int)
            · subst ex
              exact (c y hy).le0 (h.rng _ y hx hy).1 hL1
            · exact (hO1 x hx (by omega) y hy).le hx b
        · rintro row ⟨a, b, c⟩
          exact ⟨a, b, fun x hx => c x hx hx.2⟩
      · rintro row ⟨a, b, c⟩
        refine Tr.ok ⟨a, fun x hx k w hk wk => ?_⟩
        by_cases hkt : k ≤ t
        · obtain ⟨e, h1, h2⟩ := hC x hx k w hkt wk
          obtain ⟨e', h3, h4⟩ := b x hx e h1
          exact ⟨e', h3, by omega⟩
        · cases wk with
          | nil => omega
          | step hm wk =>
            have hy := (h.rng _ _ hx hm).1
            obtain ⟨e, h1, h2⟩ := hC _ hy _ _ (by omega) wk
            obtain ⟨e', h3, h4⟩ := c x hx _ hm e h1
            exact ⟨e', h3, by omega⟩
  · rintro row ⟨hS, hC⟩
    have hrl := hS.len
    have best : ∀ x, Nd n x → ∀ k w, Wk N p g k x w → ∃ d, dst row x = some d ∧ d ≤ w := fun x hx k w wk => by
      obtain ⟨j, w', h1, h2, h3⟩ := wk.short h p0 hg hx
      obtain ⟨d, h4, h5⟩ := hC x hx j w' (by omega) h2
      exact ⟨d, h4, by omega⟩
    have val : ∀ x, Nd n x → ∃ e, dst row x = some e := fun x hx => by
      obtain ⟨k, w, wk⟩ := h.wk (p := p) hg hx
      obtain ⟨d, h1, _⟩ := best x hx k w wk
      exact ⟨d, h1⟩
    have eD : row = (row.map fun o => o.getD 0).map some := by
      rw [List.map_map]
      refine (List.map_id' row).symm.trans (List.map_congr_left fun o ho => ?_)
      obtain ⟨i, hi, rfl⟩ := mem_getD (d := none) ho
      obtain ⟨e, ee⟩ := val (i : Int) (Nd.of (by omega))
      unfold dst at ee
      rw [Int.toNat_natCast] at ee
      show row.getD i none = some ((row.getD i none).getD 0)
      rw [ee]; rfl
    have eat : ∀ x, Nd n x → dst row x = some (at0 (row.map fun o => o.getD 0) x) := fun x hx => by
      obtain ⟨e, ee⟩ := val x hx
      rw [ee]
      unfold at0
      unfold dst at ee
      have hx1 := hx.1
      have hx2 := hx.2
      rw [List.getD_eq_getElem?_getD] at ee
      rw [List.getD_eq_getElem?_getD, List.getElem?_map]
      cases eo : row[x.toNat]? with
      | none => rw [eo] at ee; cases ee
      | some o =>
        rw [eo] at ee
        have ee : o = some e := ee
        rw [ee]; rfl
    have le : ∀ x, Nd n x → ∀ k w, Wk N p g k x w → at0 (row.map fun o => o.getD 0) x ≤ w := fun x hx k w wk => by
      obtain ⟨d, h1, h2⟩ := best x hx k w wk
      rw [eat x hx] at h1
      injection h1 with h1
      omega
    have wit : ∀ x, Nd n x → ∃ k, Wk N p g k x (at0 (row.map fun o => o.getD 0) x) := fun x hx => hS.snd x hx _ (eat x hx)
    refine Tr.ok ⟨_, eD, ⟨by rw [List.length_map]; exact hrl, ?_, fun x hx => ?_, fun x c hx hc => ?_, fun x hx ne => ?_⟩⟩
    · have := hS.zero
      rw [eat g hg] at this
      injection this
    · obtain ⟨k, wk⟩ := wit x hx
      exact wk.nn p0
    · obtain ⟨k, wk⟩ := wit c (h.rng x c hx hc).1
      exact le x hx _ _ (.step hc wk)
    · obtain ⟨k, wk⟩ := wit x hx
      generalize eq : at0 (row.map fun o => o.getD 0) x = W at wk
      cases wk with
      | nil => exact absurd rfl ne
      | step hm wk =>
        have h1 := le _ (h.rng _ _ hx hm).1 _ _ wk
        obtain ⟨k2, wk2⟩ := wit _ (h.rng _ _ hx hm).1
        have h2 := le x hx _ _ (.step hm wk2)
        exact ⟨_, hm, by omega⟩
/-- the neighbors on a least way -/
def onway (N : List (List Int)) (p : Int → Int → Int) (D : List Int) (a : Int) : List Int := (nb N a).filter fun x => decide (at0 D a = p a x + at0 D x)
end
end Kx
namespace Kx
open PySem PySem.Spec L2 Da
def leK (a b : Kp) : Prop := a.1 < b.1 ∨ (a.1 = b.1 ∧ a.2 ≤ b.2)
theorem leK_rfl {a : Kp} : leK a a := .inr ⟨rfl, Int.le_refl _⟩
theorem leK_tr {a b c : Kp} (h : leK a b) (k : leK b c) : leK a c := by unfold leK at *; omega
theorem ltK_le {a b : Kp} (h : ltK a b = true) : leK a b := by
  unfold ltK at h
  have h := of_decide_eq_true h
  unfold leK; omega
theorem ltK_no {a b : Kp} (h : ¬ ltK a b = true) : leK b a := by
  unfold ltK at h
  rw [decide_eq_true_iff] at h
  unfold leK; omega
section
variable {α : Type} {xs : List (α × Kp)}
def kyq (xs : List (α × Kp)) (i : Nat) : Kp := match xs[i]? with
  | some z => z.2
  | none => (0, 0)
theorem ky_at {i : Nat} {z : α × Kp} (h : xs[i]? = some z) : kyq xs i = z.2 := by unfold kyq; rw [h]
theorem ky_swp {i j : Nat} (hi : i < xs.length) (hj : j < xs.length) (k : Nat) : kyq (swp xs i j) k = if k = i then kyq xs j else if k = j then kyq xs i else kyq xs k := by
  have ei := List.getElem?_eq_getElem hi
  have ej := List.getElem?_eq_getElem hj
  rw [ky_at ei, ky_at ej]
  unfold kyq swp
  rw [ei, ej]
  dsimp only
  rw [List.getElem?_set, List.getElem?_set, List.length_set]
  by_cases h1 : k = i
  · subst h1
    rw [if_pos rfl]
    by_cases h2 : j = k
    · subst h2
      simp [hi]
    · rw [if_neg h2, if_pos rfl, if_pos hi]
  · rw [if_neg h1]
    by_cases h2 : k = j
    · subst h2
      rw [if_pos rfl, if_pos rfl, if_pos hj]
    · rw [if_neg h2, if_neg (fun z => h2 z.symm), if_neg (fun z => h1 z.symm)]
theorem swp_perm (xs : List (α × Kp)) (i j : Nat) : (swp xs i j).Perm xs := by
  unfold swp
  split
  · rename_i x y hx hy
    obtain ⟨hi, rfl⟩ := List.getElem?_eq_some_iff.mp hx
    obtain ⟨hj, rfl⟩ := List.getElem?_eq_some_iff.mp hy
    exact List.set_set_perm hi hj
  · exact .rfl
theorem hUp_perm : ∀ (f : Nat) (xs : List (α × Kp)) (pos : Nat), (hUp f xs pos).Perm xs
  | 0, _, _ => .rfl
  | f + 1, xs, pos => by
    unfold hUp
    split
    · exact .rfl
    · split
      · split
        · exact (hUp_perm f _ _).trans (swp_perm _ _ _)
        · exact .rfl
      · exact .rfl
theorem hDown_perm : ∀ (f : Nat) (xs : List (α × Kp)) (pos : Nat), (hDown f xs pos).1.Perm xs
  | 0, _, _ => .rfl
  | f + 1, xs, pos => by
    unfold hDown
    split
    · exact (hDown_perm f _ _).trans (swp_perm _ _ _)
    · exact .rfl
/-- no one is less than the one above it -/
def Hq (xs : List (α × Kp)) : Prop := ∀ i, 0 < i → i < xs.length → leK (kyq xs ((i - 1) / 2)) (kyq xs i)
theorem Hq.least (h : Hq xs) : ∀ i, i < xs.length → leK (kyq xs 0) (kyq xs i) := by
  intro i
  induction i using Nat.strongRecOn with
  | ind i ih =>
    intro hi
    by_cases h0 : i = 0
    · subst h0; exact leK_rfl
    · exact leK_tr (ih ((i - 1) / 2) (by omega) (by omega)) (h i (by omega) hi)
structure HU (xs : List (α × Kp)) (pos : Nat) : Prop where
  a : ∀ i, 0 < i → i < xs.length → i ≠ pos → leK (kyq xs ((i - 1) / 2)) (kyq xs i)
  b : 0 < pos → ∀ i, 0 < i → i < xs.length → (i - 1) / 2 = pos → leK (kyq xs ((pos - 1) / 2)) (kyq xs i)
structure HD (xs : List (α × Kp)) (pos : Nat) : Prop where
  a : ∀ i, 0 < i → i < xs.length → i ≠ pos → (i - 1) / 2 ≠ pos → leK (kyq xs ((i - 1) / 2)) (kyq xs i)
  b : 0 < pos → ∀ i, 0 < i → i < xs.length → (i - 1) / 2 = pos → leK (kyq xs ((pos - 1) / 2)) (kyq xs i)
theorem hUp_ok : ∀ (f : Nat) (xs : List (α × Kp)) (pos : Nat), pos < xs.length → pos ≤ f → HU xs pos → Hq (hUp f xs pos)
  | 0, xs, pos, hp, hf, h => fun i i0 il => h.a i i0 il (by omega)
  | f + 1, xs, pos, hp, hf, h => by
    unfold hUp
    split
    · rename_i e
      subst e
      exact fun i i0 il => h.a i i0 il (by omega)
    · rename_i hne
      rw [List.getElem?_eq_getElem hp, List.getElem?_eq_getElem (show (pos - 1) / 2 < xs.length by omega)]
      dsimp only
      have k1 : kyq xs pos = xs[pos].2 := ky_at (List.getElem?_eq_getElem hp)
      have k2 : kyq xs ((pos - 1) / 2) = (xs[(pos - 1) / 2]'(by omega)).2 := ky_at (List.getElem?_eq_getElem (by omega))
      rw [← k1, ← k2]
      split
      · rename_i hlt
        have lt := ltK_le hlt
        have hq : (pos - 1) / 2 < xs.length := by omega
        have sw := ky_swp (xs := xs) hq hp
        refine hUp_ok f _ _ (by rw [swp_len]; omega) (by omega) ⟨fun i i0 il hi => ?_, fun p0 i i0 il hi => ?_⟩
        · rw [swp_len] at il
          rw [sw, sw, if_neg hi]
          by_cases e1 : i = pos
          · subst e1
            rw [if_pos rfl, if_pos rfl]; exact lt
          · rw [if_neg e1]
            by_cases e2 : (i - 1) / 2 = (pos - 1) / 2
            · rw [if_pos e2]
              have := h.a i i0 il e1
              rw [e2] at this
              exact leK_tr lt this
            · rw [if_neg e2]
              by_cases e3 : (i - 1) / 2 = pos
              · rw [if_pos e3]
                exact h.b (by omega) i i0 il e3
              · rw [if_neg e3]
                exact h.a i i0 il e1
        · rw [swp_len] at il
          rw [sw, sw]
          have g1 : ¬ ((pos - 1) / 2 - 1) / 2 = (pos - 1) / 2 := by omega
          have g2 : ¬ ((pos - 1) / 2 - 1) / 2 = pos := by omega
          have g3 : ¬ i = (pos - 1) / 2 := by omega
          rw [if_neg g1, if_neg g2, if_neg g3]
          have up := h.a ((pos - 1) / 2) p0 hq (by omega)
          by_cases e1 : i = pos
          · rw [if_pos e1]; exact up
          · rw [if_neg e1]
            have := h.a i i0 il e1
            rw [hi] at this
            exact leK_tr up this
      · rename_i hlt
        have le := ltK_no hlt
        intro i i0 il
        by_cases e1 : i = pos
        · rw [e1]; exact le
        · exact h.a i i0 il e1
theorem kid_ok {pos : Nat} (h : pos < xs.length / 2) : (kid xs pos = 2 * pos + 1 ∨ kid xs pos = 2 * pos + 2) ∧ kid xs pos < xs.length ∧ ∀ i, 0 < i → i < xs.length → (i - 1) / 2 = pos → leK (kyq xs (kid xs pos)) (kyq xs i) := by
  have e1 := List.getElem?_eq_getElem (show 2 * pos + 1 < xs.length by omega)
  have k1 := ky_at e1
  unfold kid
  rw [e1]
  by_cases h2 : 2 * pos + 2 < xs.length
  · have e2 := List.getElem?_eq_getElem h2
    have k2 := ky_at e2
    rw [e2]
    dsimp only
    rw [← k1, ← k2]
    split
    · rename_i lt
      have := ltK_le lt
      refine ⟨.inl rfl, by omega, fun i i0 il e => ?_⟩
      have : i = 2 * pos + 1 ∨ i = 2 * pos + 2 := by omega
      rcases this with rfl | rfl
      · exact leK_rfl
      · assumption
    · rename_i lt
      have := ltK_no lt
      refine ⟨.inr rfl, by omega, fun i i0 il e => ?_⟩
      have : i = 2 * pos + 1 ∨ i = 2 * pos + 2 := by omega
      rcases this with rfl | rfl
      · assumption
      · exact leK_rfl
  · rw [List.getElem?_eq_none (by omega)]
    dsimp only
    refine ⟨.inl rfl, by omega, fun i i0 il e => ?_⟩
    have : i = 2 * pos + 1 := by omega
    subst this
    exact leK_rfl
theorem hDown_ok : ∀ (f : Nat) (xs : List (α × Kp)) (pos : Nat), pos < xs.length → xs.length ≤ f + pos → HD xs pos → (hDown f xs pos).2 < xs.length ∧ HU (hDown f xs pos).1 (hDown f xs pos).2
  | 0, xs, pos, hp, hf, h => by omega
  | f + 1, xs, pos, hp, hf, h => by
    unfold hDown
    split
    · rename_i hlt
      obtain ⟨c1, c2, c3⟩ := kid_ok hlt
      generalize kid xs pos = c at c1 c2 c3
      have sw := ky_swp (xs := xs) c2 hp
      have r := hDown_ok f (swp xs c pos) c (by rw [swp_len]; exact c2) (by rw [swp_len]; omega) ⟨fun i i0 il h1 h2 => ?_, fun c0 i i0 il hi => ?_⟩
      · rw [swp_len] at r
        exact r
      · rw [swp_len] at il
        rw [sw, sw, if_neg h1, if_neg h2]
        by_cases e1 : i = pos
        · rw [if_pos e1]
          have g : ¬ (i - 1) / 2 = pos := by omega
          rw [if_neg g, e1]
          exact h.b (by omega) c (by omega) c2 (by omega)
        · rw [if_neg e1]
          by_cases e2 : (i - 1) / 2 = pos
          · rw [if_pos e2]
            exact c3 i i0 il e2
          · rw [if_neg e2]
            exact h.a i i0 il e1 e2
      · rw [swp_len] at il
        have ec : (c - 1) / 2 = pos := by omega
        rw [ec, sw, sw]
        have g1 : ¬ pos = c := by omega
        have g2 : ¬ i = c := by omega
        have g3 : ¬ i = pos := by omega
        rw [if_neg g1, if_pos rfl, if_neg g2, if_neg g3]
        have := h.a i i0 il g3 (by omega)
        rwa [hi] at this
    · exact ⟨hp, fun i i0 il hi => h.a i i0 il hi (by have il : i < xs.length := il; omega), fun p0 i i0 il hi => by have il : i < xs.length := il; have hi : (i - 1) / 2 = pos := hi; omega⟩
theorem hPush_ok {x : α × Kp} (h : Hq xs) : Hq (hPush xs x) ∧ (hPush xs x).Perm (x :: xs) := by
  unfold hPush
  refine ⟨hUp_ok _ _ _ (by simp) (by omega) ⟨fun i i0 il hi => ?_, fun p0 i i0 il hi => ?_⟩, (hUp_perm _ _ _).trans (List.perm_append_singleton _ _)⟩
  · rw [List.length_append, List.length_singleton] at il
    have e : ∀ j, j < xs.length → kyq (xs ++ [x]) j = kyq xs j := fun j hj => by
      unfold kyq; rw [List.getElem?_append_left hj]
    rw [e _ (by omega), e _ (by omega)]
    exact h i i0 (by omega)
  · rw [List.length_append, List.length_singleton] at il
    omega
theorem hPop_ok {x : α} {ws : List (α × Kp)} (h : Hq xs) (hp : hPop xs = some (x, ws)) : ∃ k, ((x, k) :: ws).Perm xs ∧ (∀ z ∈ xs, leK k z.2) ∧ Hq ws := by
  have least : ∀ {y : α × Kp} {t : List (α × Kp)}, xs = y :: t → ∀ z ∈ xs, leK y.2 z.2 := fun e z hz => by
    obtain ⟨i, hi⟩ := List.mem_iff_getElem?.mp hz
    have hl := (List.getElem?_eq_some_iff.mp hi).1
    have := h.least i hl
    rw [ky_at hi] at this
    rw [e] at this
    exact this
  match xs, hp with
  | [y], hp =>
    cases hp
    exact ⟨y.2, .rfl, least rfl, fun i i0 il => nomatch il⟩
  | y :: y2 :: t, hp =>
    have hp : some (y.1, _) = some (x, ws) := hp
    injection hp with hp
    injection hp with e1 e2
    subst e1
    refine ⟨y.2, ?_, least rfl, ?_⟩
    · rw [← e2]
      refine (List.Perm.cons _ ((hUp_perm _ _ _).trans (hDown_perm _ _ _))).trans ?_
      rw [show (y :: y2 :: t).dropLast = y :: (y2 :: t).dropLast from rfl, List.set_cons_zero]
      refine List.Perm.cons _ ?_
      rw [show (y :: y2 :: t).getLast (by simp) = (y2 :: t).getLast (by simp) from rfl]
      refine (List.perm_append_singleton _ _).symm.trans ?_
      rw [List.dropLast_concat_getLast]
    · rw [← e2]
      have lz : (((y :: y2 :: t).dropLast).set 0 ((y :: y2 :: t).getLast (by simp))).length = t.length + 1 := by simp
      have r := hDown_ok (((y :: y2 :: t).dropLast).set 0 ((y :: y2 :: t).getLast (by simp))).length (((y :: y2 :: t).dropLast).set 0 ((y :: y2 :: t).getLast (by simp))) 0 (by rw [lz]; omega) (by omega) ⟨fun i i0 il h1 h2 => ?_, fun p0 => by omega⟩
      · exact hUp_ok _ _ _ (by rw [(hDown_perm _ _ _).length_eq]; exact r.1) (by have := r.1; omega) r.2
      · rw [lz] at il
        have e : ∀ j, 0 < j → j < t.length + 1 → kyq (((y :: y2 :: t).dropLast).set 0 ((y :: y2 :: t).getLast (by simp))) j = kyq (y :: y2 :: t) j := fun j j0 hj => by
          unfold kyq
          rw [List.getElem?_set, if_neg (by omega), List.dropLast_eq_take, List.getElem?_take, if_pos (by simp; omega)]
        rw [e _ (by omega) (by omega), e _ i0 il]
        exact h i i0 (by simp; omega)
theorem hPop_some (h : xs ≠ []) : ∃ x ws, hPop xs = some (x, ws) := by
  match xs, h with
  | [y], _ => exact ⟨_, _, rfl⟩
  | y :: y2 :: t, _ => exact ⟨_, _, rfl⟩
end
def Hk (xs : List Kp) : Prop := Hq (dbl xs)
theorem Hk.nil : Hk [] := fun i i0 il => nomatch il
theorem Hk.one (k : Kp) : Hk [k] := fun i i0 il => by
  have : i < 1 := il
  omega
theorem dbl_fst {ys : List (Kp × Kp)} (h : ∀ z ∈ ys, z.1 = z.2) : dbl (ys.map (·.1)) = ys := by
  unfold dbl
  rw [List.map_map]
  refine (List.map_congr_left fun z hz => ?_).trans (List.map_id' ys)
  show (z.1, z.1) = z
  have := h z hz
  rw [Prod.ext_iff]
  exact ⟨rfl, this⟩
theorem dbl_mem {xs : List Kp} {z : Kp × Kp} (h : z ∈ dbl xs) : z.1 = z.2 ∧ z.1 ∈ xs := by
  unfold dbl at h
  obtain ⟨w, hw, rfl⟩ := List.mem_map.mp h
  exact ⟨rfl, hw⟩
theorem fst_dbl (xs : List Kp) : (dbl xs).map (·.1) = xs := by unfold dbl; rw [List.map_map]; exact List.map_id' xs
theorem hpushR_ok {xs : List Kp} (h : Hk xs) (hz : xs.length < 1000000) (k : Kp) : ∃ ys, hpushR xs k = .ok ys ∧ ys.Perm (k :: xs) ∧ Hk ys := by
  obtain ⟨h1, h2⟩ := hPush_ok (x := (k, k)) h
  refine ⟨_, by unfold hpushR; rw [if_pos (szOk_yes (by omega))], ?_, ?_⟩
  · have := h2.map (·.1)
    rwa [List.map_cons, fst_dbl] at this
  · unfold Hk
    rw [dbl_fst fun z hz => ?_]
    · exact h1
    · rcases List.mem_cons.mp (h2.mem_iff.mp hz) with e | e
      · rw [e]
      · exact (dbl_mem e).1
theorem hpopR_ok {xs : List Kp} (h : Hk xs) (hne : xs ≠ []) : ∃ k ws, hpopR xs = .ok (k, ws) ∧ (k :: ws).Perm xs ∧ (∀ z ∈ xs, leK k z) ∧ Hk ws := by
  obtain ⟨x, ws, e⟩ := hPop_some (xs := dbl xs) (by
    intro e
    apply hne
    have := congrArg List.length e
    unfold dbl at this
    rw [List.length_map] at this
    exact List.length_eq_zero_iff.mp this)
  obtain ⟨k, h1, h2, h3⟩ := hPop_ok h e
  have hx := (dbl_mem (h1.mem_iff.mp List.mem_cons_self)).1
  have hx : x = k := hx
  subst hx
  refine ⟨x, ws.map (·.1), by unfold hpopR; rw [e], ?_, fun z hz => ?_, ?_⟩
  · have := h1.map (·.1)
    rwa [fst_dbl, List.map_cons] at this
  · exact h2 (z, z) (List.mem_map.mpr ⟨z, hz, rfl⟩)
  · unfold Hk
    rw [dbl_fst fun z hz => (dbl_mem (h1.mem_iff.mp (List.mem_cons_of_mem _ hz))).1]
    exact h3
end Kx
namespace Kx
open PySem PySem.Spec L2 Da
section
variable {n : Nat} {N : List (List Int)} {p : Int → Int → Int} {g : Int}
theorem Heights.walk (hN : Near n N) {D : List Int} (h : Heights n N p g D) : ∀ {k : Nat} {x w : Int}, Wk N p g k x w → Nd n x → at0 D x ≤ w
  | _, _, _, .nil, _ => by rw [h.zero]; exact Int.le_refl _
  | _, _, _, .step (x := x) (c := c) hc t, hx => by
    have := Heights.walk hN h t (hN.rng x c hx hc).1
    have := h.le x c hx hc
    omega
theorem Heights.wit (hN : Near n N) (hp : ∀ x c, 1 ≤ p x c) {D : List Int} (h : Heights n N p g D) : ∀ (m : Nat) (x : Int), Nd n x → (at0 D x).toNat < m → ∃ k, Wk N p g k x (at0 D x)
  | 0, _, _, hm => by omega
  | m + 1, x, hx, hm => by
    by_cases e : x = g
    · subst e
      rw [h.zero]
      exact ⟨0, .nil⟩
    · obtain ⟨c, hc, ec⟩ := h.prd x hx e
      have hcn := (hN.rng x c hx hc).1
      have := hp x c
      have := h.nn c hcn
      obtain ⟨k, wk⟩ := Heights.wit hN hp h m c hcn (by omega)
      rw [ec]
      exact ⟨k + 1, .step hc wk⟩
theorem at0_ext {A B : List Int} (ha : A.length = n) (hb : B.length = n) (h : ∀ x, Nd n x → at0 A x = at0 B x) : A = B := by
  refine List.ext_getElem (by omega) fun i h1 h2 => ?_
  have := h (i : Int) (Nd.of (by omega))
  unfold at0 at this
  rw [Int.toNat_natCast, List.getD_eq_getElem?_getD, List.getD_eq_getElem?_getD, List.getElem?_eq_getElem h1, List.getElem?_eq_getElem h2] at this
  exact this
theorem Heights.uniq (hN : Near n N) (hp : ∀ x c, 1 ≤ p x c) {A B : List Int} (ha : Heights n N p g A) (hb : Heights n N p g B) : A = B := by
  refine at0_ext ha.len hb.len fun x hx => ?_
  obtain ⟨k, wa⟩ := ha.wit hN hp _ x hx (Nat.lt_succ_self _)
  obtain ⟨l, wb⟩ := hb.wit hN hp _ x hx (Nat.lt_succ_self _)
  have h1 := hb.walk hN wa hx
  have h2 := ha.walk hN wb hx
  omega
structure Dj (n : Nat) (N : List (List Int)) (p : Int → Int → Int) (g : Int) (s : List (Option Int) × List (Int × Int)) : Prop where
  len : s.1.length = n
  hk : Hk s.2
  snd : ∀ z ∈ s.2, Nd n z.2 ∧ ∃ k, Wk N p g k z.2 z.1
  set : ∀ x, Nd n x → ∀ d, dst s.1 x = some d → ∃ k, Wk N p g k x d
  low : ∀ z ∈ s.2, ∀ y, Nd n y → ∀ d, dst s.1 y = some d → d ≤ z.1
  due : ∀ x, Nd n x → dst s.1 x = none → ∀ c ∈ nb N x, ∀ d, dst s.1 c = some d → ∃ w, (w, x) ∈ s.2 ∧ w ≤ p x c + d
  dg : dst s.1 g = none → (0, g) ∈ s.2
  ok : ∀ x, Nd n x → ∀ a, dst s.1 x = some a → ∀ c ∈ nb N x, ∀ b, dst s.1 c = some b → a ≤ p x c + b
  zg : ∀ d, dst s.1 g = some d → d = 0
  few : s.2.length + 1001 * s.1.countP (·.isNone) ≤ 25000
def muD (s : List (Option Int) × List (Int × Int)) : Nat := s.2.length + 1001 * s.1.countP (·.isNone)
theorem count_set {row : List (Option Int)} {v : Int} {h : Int} (hl : row.length = n) (hv : Nd n v) (e : dst row v = none) : (row.set v.toNat (some h)).countP (·.isNone) + 1 = row.countP (·.isNone) := by
  have h0 := hv.1
  have h1 := hv.2
  have hi : v.toNat < row.length := by omega
  have e2 : row[v.toNat] = none := by
    unfold dst at e
    rw [List.getD_eq_getElem?_getD, List.getElem?_eq_getElem hi] at e
    exact e
  rw [List.countP_set hi, e2]
  have : 0 < row.countP (·.isNone) := List.countP_pos_iff.mpr ⟨none, e2 ▸ List.getElem_mem hi, rfl⟩
  simp
  omega
/-- the neighbors are pushed -/
structure Pu (n : Nat) (N : List (List Int)) (p : Int → Int → Int) (row : List (Option Int)) (v h : Int) (W : List (Int × Int)) (i : Nat) (Q : List (Int × Int)) : Prop where
  hk : Hk Q
  len : Q.length ≤ W.length + i
  src : ∀ z ∈ Q, z ∈ W ∨ ∃ x ∈ nb N v, z = (h + p x v, x)
  keep : ∀ z ∈ W, z ∈ Q
  new : ∀ x ∈ (nb N v).take i, dst row x = none → (h + p x v, x) ∈ Q
theorem pushes (hN : Near n N) {d : List ((Int × Int) × Int)} (hd : Priced n N d p) {row : List (Option Int)} (hl : row.length = n) {v h : Int} (hv : Nd n v) {W : List (Int × Int)} (hW : Hk W) (hz : W.length ≤ 30000) :
    Tr (forR (σ := (List (Int × Int))) (fun x61 x62 => ((((ixR row x62).bind fun x75 => (Res.ok (Option.isNone x75))).bind fun x80 => if x80 = true then (((((dgetN d (x62, v)).bind fun x76 => (Res.ok (h + x76))).bind fun x77 => (Res.ok (x77, x62))).bind fun x78 => hpushR x61 x78).bind fun x79 =>
  Res.ok x79) else
  Res.ok x61).bind fun x81 =>
  Res.ok x81)) (nb N v) W) (Pu n N p row v h W (nb N v).length) := by
  have hf := hN.few v
  refine tr_forR (fun i Q => Pu n N p row v h W i Q) ⟨hW, Nat.le_refl _, fun z hz => .inl hz, fun z hz => hz, fun x hx => by simp at hx⟩ ?_ fun s hs => hs
  intro i x Q hx hQ
  have hi := (List.getElem?_eq_some_iff.mp hx).1
  have hm := List.mem_of_getElem? hx
  have hxn := (hN.rng v x hv hm).1
  have hl2 := hQ.len
  have ext : ∀ y ∈ (nb N v).take (i + 1), y ∈ (nb N v).take i ∨ y = x := fun y hy => by
    rw [List.take_succ, hx] at hy
    rcases List.mem_append.mp hy with z | z
    · exact .inl z
    · exact .inr (by simpa using z)
  rw [ix_dst hl hxn]
  dsimp only [Res.bind_ok]
  cases ed : dst row x with
  | some a =>
    refine Tr.ok ⟨hQ.hk, by omega, hQ.src, hQ.keep, fun y hy hn => ?_⟩
    rcases ext y hy with z | z
    · exact hQ.new y z hn
    · rw [z, ed] at hn; cases hn
  | none =>
    rw [show (if Option.isNone (none : Option Int) = true then _ else _ : Res (List (Int × Int))) = _ from if_pos rfl]
    rw [hd.2 x v hxn (hN.sym v x hv hm)]
    dsimp only [Res.bind_ok]
    obtain ⟨ys, ey, py, ky⟩ := hpushR_ok hQ.hk (by omega) (h + p x v, x)
    rw [ey]
    dsimp only [Res.bind_ok]
    refine Tr.ok ⟨ky, by rw [py.length_eq, List.length_cons]; omega, fun z hz => ?_, fun z hz => py.mem_iff.mpr (List.mem_cons_of_mem _ (hQ.keep z hz)), fun y hy hn => ?_⟩
    · rcases List.mem_cons.mp (py.mem_iff.mp hz) with e | e
      · exact .inr ⟨x, hm, e⟩
      · exact hQ.src z e
    · rcases ext y hy with z | z
      · exact py.mem_iff.mpr (List.mem_cons_of_mem _ (hQ.new y z hn))
      · subst z
        exact py.mem_iff.mpr List.mem_cons_self
theorem goal_heights (hN : Near n N) {d : List ((Int × Int) × Int)} (hd : Priced n N d p) (hg : Nd n g) {V : Int × List (Int × Int) × List (List Int) × List (Int × Int)} (e1 : V.1 = n) (e2 : V.2.2.1 = N) :
    Tr (N_goal_heights_cNetitpiiqttitpiiqq_mpiiqiq_i V d g) fun row => ∃ D : List Int, row = D.map some ∧ Heights n N p g D := by
  have hn := hN.le
  have p1 : ∀ x c, 1 ≤ p x c := fun x c => (hd.1 x c).1
  have p0 : ∀ x c, 0 ≤ p x c := fun x c => by have := p1 x c; omega
  unfold N_goal_heights_cNetitpiiqttitpiiqq_mpiiqiq_i
  rw [e1, e2]
  have hl : (List.replicate n (none : Option Int)).length = n := List.length_replicate
  have hnone : ∀ x, dst (List.replicate n (none : Option Int)) x = none := fun x => by
    unfold dst
    rw [List.getD_eq_getElem?_getD, List.getElem?_replicate]
    split <;> rfl
  refine bind_eq (v := List.replicate n none) ?_ ?_
  · rw [rngR_nat (by omega)]
    refine (lcR_map (g := fun _ => none) (by rw [upto_length]; omega) fun x _ => rfl).trans ?_
    rw [List.map_const', upto_length]
  refine Tr.bind (Q := fun s => Dj n N p g s ∧ s.2 = []) (Tr.bind (Q := fun o => ∃ s, o = Ctl.go s ∧ Dj n N p g s ∧ s.2 = []) ?_ ?_) ?_
  · refine tr_while (fun s => Dj n N p g s) muD ?_ ?_ ?_
    · refine ⟨hl, Hk.one _, fun z hz => ?_, fun x hx d e => ?_, fun z hz y hy d e => ?_, fun x hx e c hc d e2 => ?_, fun _ => List.mem_singleton.mpr rfl, fun x hx a e => ?_, fun d e => ?_, ?_⟩
      · rw [List.mem_singleton.mp hz]
        exact ⟨hg, 0, .nil⟩
      · dsimp only at e; rw [hnone] at e; cases e
      · dsimp only at e; rw [hnone] at e; cases e
      · dsimp only at e2; rw [hnone] at e2; cases e2
      · dsimp only at e; rw [hnone] at e; cases e
      · dsimp only at e; rw [hnone] at e; cases e
      · have := List.countP_le_length (p := fun x : Option Int => x.isNone) (l := List.replicate n none)
        rw [hl] at this
        show 1 + 1001 * (List.replicate n (none : Option Int)).countP (·.isNone) ≤ _
        omega
    · have := List.countP_le_length (p := fun x : Option Int => x.isNone) (l := List.replicate n none)
      rw [hl] at this
      show 1 + 1001 * (List.replicate n (none : Option Int)).countP (·.isNone) < _
      omega
    · rintro ⟨row, Q⟩ hP
      refine Tr.ok ⟨fun hb => ⟨_, rfl, hP, ?_⟩, fun hb => ?_⟩
      · cases Q with
        | nil => rfl
        | cons z Q => cases hb
      · have hne : Q ≠ [] := fun e => by subst e; cases hb
        obtain ⟨⟨h, v⟩, W, ep, pp, mn, kW⟩ := hpopR_ok hP.hk hne
        have hk := hP.hk
        have few := hP.few
        have hlr := hP.len
        dsimp only at few hlr ep hk
        have lw := pp.length_eq
        rw [List.length_cons] at lw
        have lw : W.length + 1 = Q.length := lw
        have hin : (h, v) ∈ Q := pp.mem_iff.mp List.mem_cons_self
        have inW : ∀ z ∈ W, z ∈ Q := fun z hz => pp.mem_iff.mp (List.mem_cons_of_mem _ hz)
        have outW : ∀ z ∈ Q, z = (h, v) ∨ z ∈ W := fun z hz => List.mem_cons.mp (pp.mem_iff.mpr hz)
        have min : ∀ z ∈ Q, h ≤ z.1 := fun z hz => by
          have := mn z hz
          unfold leK at this
          dsimp only at this
          omega
        obtain ⟨hv, kv, wv⟩ := hP.snd _ hin
        dsimp only at hv wv
        have h0 := wv.nn p0
        refine bind_eq (v := ((h, v), W)) (by rw [ep]; rfl) ?_
        dsimp only
        rw [ix_dst hlr hv]
        dsimp only [Res.bind_ok]
        cases edv : dst row v with
        | some a =>
          refine bind_eq (v := (row, W)) (by rfl) (Tr.ok ⟨⟨hlr, kW, fun z hz => hP.snd z (inW z hz), hP.set, fun z hz => hP.low z (inW z hz), fun x hx e c hc d e2 => ?_, fun e => ?_, hP.ok, hP.zg, ?_⟩, ?_⟩)
          · obtain ⟨w, hw, lw⟩ := hP.due x hx e c hc d e2
            rcases outW _ hw with z | z
            · cases z
              dsimp only at e
              rw [edv] at e; cases e
            · exact ⟨w, z, lw⟩
          · rcases outW _ (hP.dg e) with z | z
            · cases z
              dsimp only at e
              rw [edv] at e; cases e
            · exact z
          · dsimp only; omega
          · unfold muD; dsimp only; omega
        | none =>
          have cs := count_set (h := h) hlr hv edv
          have es : setR row v (some h) = .ok (row.set v.toNat (some h)) := setR_of hv.1 (by rw [hlr]; exact hv.2)
          have dn : ∀ y, Nd n y → dst (row.set v.toNat (some h)) y = if v = y then some h else dst row y := fun y hy => dst_set hlr hv hy _
          have hl2 : (row.set v.toNat (some h)).length = n := by rw [List.length_set]; exact hlr
          have hfv := hN.few v
          refine Tr.bind (Q := fun s => Dj n N p g s ∧ muD s < muD (row, Q)) ?_ fun s hs => Tr.ok hs
          rw [show (if Option.isNone (none : Option Int) = true then _ else _ : Res (List (Option Int) × List (Int × Int))) = _ from if_pos rfl]
          refine bind_eq es ?_
          refine Tr.bind (Q := fun Q' => Pu n N p (row.set v.toNat (some h)) v h W (nb N v).length Q') ?_ fun Q' hQ' => ?_
          · refine bind_eq (ix_nb hN.len hv) ?_
            exact pushes hN hd hl2 hv kW (by omega)
          · have lq := hQ'.len
            have lowh : ∀ z ∈ Q', h ≤ z.1 := fun z hz => by
              rcases hQ'.src z hz with e | ⟨x, hx, e⟩
              · exact min z (inW z e)
              · rw [e]
                have := p0 x v
                dsimp only; omega
            refine Tr.ok ⟨⟨hl2, hQ'.hk, fun z hz => ?_, fun x hx d e => ?_, fun z hz y hy d e => ?_, fun x hx e c hc d e2 => ?_, fun e => ?_, fun x hx a ea c hc b eb => ?_, fun d e => ?_, ?_⟩, ?_⟩
            · rcases hQ'.src z hz with e | ⟨x, hx, e⟩
              · exact hP.snd z (inW z e)
              · subst e
                refine ⟨(hN.rng v x hv hx).1, kv + 1, ?_⟩
                have := Wk.step (hN.sym v x hv hx) wv
                rw [Int.add_comm] at this
                exact this
            · dsimp only at e
              rw [dn x hx] at e
              split at e
              · rename_i ex
                cases e
                subst ex
                exact ⟨kv, wv⟩
              · exact hP.set x hx d e
            · dsimp only at e
              rw [dn y hy] at e
              split at e
              · cases e
                exact lowh z hz
              · have h1 := hP.low _ hin y hy d e
                have h2 := lowh z hz
                dsimp only at h1
                omega
            · dsimp only at e e2
              rw [dn x hx] at e
              have hcn := (hN.rng x c hx hc).1
              rw [dn c hcn] at e2
              split at e
              · cases e
              · rename_i ne
                split at e2
                · rename_i ec
                  cases e2
                  subst ec
                  have hxv := hN.sym x v hx hc
                  refine ⟨h + p x v, hQ'.new x (by rw [List.take_length]; exact hxv) ?_, by omega⟩
                  rw [dn x hx, if_neg ne]
                  exact e
                · obtain ⟨w, hw, lw⟩ := hP.due x hx e c hc d e2
                  rcases outW _ hw with z | z
                  · cases z; exact absurd rfl ne
                  · exact ⟨w, hQ'.keep _ z, lw⟩
            · dsimp only at e
              rw [dn g hg] at e
              split at e
              · cases e
              · rename_i ne
                rcases outW _ (hP.dg e) with z | z
                · cases z; exact absurd rfl ne
                · exact hQ'.keep _ z
            · dsimp only at ea eb
              have hcn := (hN.rng x c hx hc).1
              rw [dn x hx] at ea
              rw [dn c hcn] at eb
              split at ea
              · rename_i ex
                cases ea
                subst ex
                split at eb
                · rename_i ec
                  cases eb
                  have := p0 v c
                  omega
                · obtain ⟨w, hw, lw⟩ := hP.due v hx edv c hc b eb
                  have := min _ hw
                  dsimp only at this
                  omega
              · split at eb
                · rename_i ec
                  cases eb
                  have h1 := hP.low _ hin x hx a ea
                  have h2 := p0 x c
                  dsimp only at h1
                  omega
                · exact hP.ok x hx a ea c hc b eb
            · dsimp only at e
              rw [dn g hg] at e
              split at e
              · rename_i ex
                cases e
                subst ex
                have := min _ (hP.dg edv)
                dsimp only at this
                omega
              · exact hP.zg d e
            · dsimp only; omega
            · unfold muD; dsimp only; omega
  · rintro _ ⟨s, rfl, hs⟩
    exact Tr.ok hs
  · rintro ⟨row, Q⟩ ⟨hP, hQ⟩
    dsimp only at hQ
    subst hQ
    have all : ∀ x, Nd n x → dst row x ≠ none := fun x hx => by
      refine hN.con (fun y => Nd n y → dst row y ≠ none) (fun a b ha hb h _ e => ?_) g x hg hx (fun _ e => nomatch hP.dg e) hx
      have hbn := (hN.rng a b ha hb).1
      cases ea : dst row a with
      | none => exact h ha ea
      | some d =>
        obtain ⟨w, hw, _⟩ := hP.due b hbn e a (hN.sym a b ha hb) d ea
        exact nomatch hw
    have val : ∀ x, Nd n x → ∃ e, dst row x = some e := fun x hx => by
      cases e : dst row x with
      | none => exact absurd e (all x hx)
      | some d => exact ⟨d, rfl⟩
    have hrl := hP.len
    dsimp only at hrl
    have eD : row = (row.map fun o => o.getD 0).map some := by
      rw [List.map_map]
      refine (List.map_id' row).symm.trans (List.map_congr_left fun o ho => ?_)
      obtain ⟨i, hi, rfl⟩ := mem_getD (d := none) ho
      obtain ⟨e, ee⟩ := val (i : Int) (Nd.of (by omega))
      unfold dst at ee
      rw [Int.toNat_natCast] at ee
      show row.getD i none = some ((row.getD i none).getD 0)
      rw [ee]; rfl
    have eat : ∀ x, Nd n x → dst row x = some (at0 (row.map fun o => o.getD 0) x) := fun x hx => by
      obtain ⟨e, ee⟩ := val x hx
      rw [ee]
      unfold at0
      unfold dst at ee
      have hx1 := hx.1
      have hx2 := hx.2
      rw [List.getD_eq_getElem?_getD] at ee
      rw [List.getD_eq_getElem?_getD, List.getElem?_map]
      cases eo : row[x.toNat]? with
      | none => rw [eo] at ee; cases ee
      | some o =>
        rw [eo] at ee
        have ee : o = some e := ee
        rw [ee]; rfl
    have zero : at0 (row.map fun o => o.getD 0) g = 0 := hP.zg _ (eat g hg)
    have le : ∀ x c, Nd n x → c ∈ nb N x → at0 (row.map fun o => o.getD 0) x ≤ p x c + at0 (row.map fun o => o.getD 0) c := fun x c hx hc => hP.ok x hx _ (eat x hx) c hc _ (eat c (hN.rng x c hx hc).1)
    have walk : ∀ {k : Nat} {x w : Int}, Wk N p g k x w → Nd n x → at0 (row.map fun o => o.getD 0) x ≤ w := by
      intro k x w t
      induction t with
      | nil => intro _; rw [zero]; exact Int.le_refl _
      | step hc t ih =>
        intro hx
        have := ih (hN.rng _ _ hx hc).1
        have := le _ _ hx hc
        omega
    refine Tr.ok ⟨_, eD, ⟨by rw [List.length_map]; exact hrl, zero, fun x hx => ?_, le, fun x hx ne => ?_⟩⟩
    · obtain ⟨k, wk⟩ := hP.set x hx _ (eat x hx)
      exact wk.nn p0
    · obtain ⟨k, wk⟩ := hP.set x hx _ (eat x hx)
      generalize eq : at0 (row.map fun o => o.getD 0) x = W at wk
      cases wk with
      | nil => exact absurd rfl ne
      | step hm wk =>
        have h1 := walk wk (hN.rng _ _ hx hm).1
        have h2 := le x _ hx hm
        exact ⟨_, hm, by omega⟩
end
end Kx
namespace Kx
open PySem PySem.Spec L2 Da
theorem dlook_put {κ α : Type} [DecidableEq κ] (xs : List (κ × α)) (k : κ) (v : α) (k' : κ) : dlookN (dputN xs k v) k' = if k = k' then some v else dlookN xs k' := by
  have m1 : ∀ ys : List (κ × α), (ys.any fun p => decide (p.1 = k)) = true → dlookN (ys.map fun p => if p.1 = k then (p.1, v) else p) k' = if k = k' then some v else dlookN ys k' := by
    intro ys
    induction ys with
    | nil => intro h; cases h
    | cons p ys ih =>
      intro h
      rw [List.map_cons]
      unfold dlookN
      by_cases e : p.1 = k
      · rw [if_pos e]
        dsimp only
        by_cases e2 : k = k'
        · rw [if_pos (e.trans e2), if_pos e2]
        · rw [if_neg (fun z => e2 (e.symm.trans z)), if_neg e2, if_neg (fun z => e2 (e.symm.trans z))]
          by_cases h2 : (ys.any fun p => decide (p.1 = k)) = true
          · rw [ih h2, if_neg e2]
          · have : (ys.map fun p => if p.1 = k then (p.1, v) else p) = ys := by
              refine (List.map_congr_left fun q hq => ?_).trans (List.map_id' ys)
              rw [if_neg]
              intro e3
              exact h2 (List.any_eq_true.mpr ⟨q, hq, decide_eq_true e3⟩)
            rw [this]
      · rw [if_neg e]
        have h2 : (ys.any fun p => decide (p.1 = k)) = true := by
          rw [List.any_cons, decide_eq_false e, Bool.false_or] at h
          exact h
        rw [ih h2]
        by_cases e2 : k = k'
        · rw [if_pos e2, if_neg (fun z => e (z.trans e2.symm)), if_pos e2]
        · rw [if_neg e2, if_neg e2]
  have m2 : ∀ ys : List (κ × α), ¬ (ys.any fun p => decide (p.1 = k)) = true → dlookN (ys ++ [(k, v)]) k' = if k = k' then some v else dlookN ys k' := by
    intro ys
    induction ys with
    | nil =>
      intro _
      show (if k = k' then some v else none) = _
      rfl
    | cons p ys ih =>
      intro h
      rw [List.any_cons] at h
      have e : p.1 ≠ k := fun e => h (by rw [decide_eq_true e]; rfl)
      have h2 : ¬ (ys.any fun p => decide (p.1 = k)) = true := fun z => h (by rw [z, Bool.or_true])
      rw [List.cons_append]
      unfold dlookN
      rw [ih h2]
      by_cases e2 : k = k'
      · rw [if_pos e2, if_neg (fun z => e (z.trans e2.symm)), if_pos e2]
      · rw [if_neg e2, if_neg e2]
  unfold dputN
  by_cases h : (xs.any fun p => decide (p.1 = k)) = true
  · rw [if_pos h]; exact m1 xs h
  · rw [if_neg h]; exact m2 xs h
theorem dput_len {κ α : Type} [DecidableEq κ] (xs : List (κ × α)) (k : κ) (v : α) : (dputN xs k v).length ≤ xs.length + 1 := by
  unfold dputN
  split
  · rw [List.length_map]; omega
  · rw [List.length_append]; simp
theorem dput_ok {κ α : Type} [DecidableEq κ] {xs : List (κ × α)} {k : κ} {v : α} (h : xs.length < 1000000) : dputR xs k v = .ok (dputN xs k v) := by
  unfold dputR
  rw [if_pos (szOk_yes (by omega))]
theorem getD_lt {α : Type} {s : List α} {x d : α} {i : Nat} (h : i < s.length) : (s ++ [x]).getD i d = s.getD i d := by
  rw [List.getD_eq_getElem?_getD, List.getD_eq_getElem?_getD, List.getElem?_append_left h]
theorem getD_eq {α : Type} {s : List α} {x d : α} : (s ++ [x]).getD s.length d = x := by
  rw [List.getD_eq_getElem?_getD, List.getElem?_concat_length]; rfl
section
variable {n : Nat} {N : List (List Int)}
theorem mem_lanes (h : Near n N) {a b : Int} : (a, b) ∈ lanesOf n N ↔ Nd n a ∧ b ∈ nb N a := by
  unfold lanesOf
  rw [List.mem_flatMap]
  constructor
  · rintro ⟨x, hx, hm⟩
    obtain ⟨y, hy, e⟩ := List.mem_map.mp hm
    cases e
    exact ⟨mem_upto.mp hx, hy⟩
  · rintro ⟨h1, h2⟩
    exact ⟨a, mem_upto.mpr h1, List.mem_map.mpr ⟨b, h2, rfl⟩⟩
theorem getD_set {α : Type} {xs : List α} {i j : Nat} {x d : α} (h : i < xs.length) : (xs.set i x).getD j d = if i = j then x else xs.getD j d := by
  rw [List.getD_eq_getElem?_getD, List.getD_eq_getElem?_getD, List.getElem?_set]
  by_cases e : i = j
  · subst e; rw [if_pos rfl, if_pos h, if_pos rfl]; rfl
  · rw [if_neg e, if_neg e]
end
end Kx
namespace Kx
open PySem PySem.Spec L2 Da
section
variable {n : Nat} {N : List (List Int)} {p : Int → Int → Int} {g u : Int} {D : List Int}
/-- each node is followed by the first one on a least way -/
def Gdy (N : List (List Int)) (p : Int → Int → Int) (D : List Int) (r : List Int) : Prop := ∀ (i : Nat) a b, r[i]? = some a → r[i + 1]? = some b → (onway N p D a).head? = some b
theorem Gdy.one {x : Int} : Gdy N p D [x] := fun i a b h1 h2 => by simp at h2
theorem Gdy.snoc {r : List Int} {a b : Int} (h : Gdy N p D r) (hl : r.getLast? = some a) (hb : (onway N p D a).head? = some b) : Gdy N p D (r ++ [b]) := fun i x y h1 h2 => by
  by_cases hi : i + 1 < r.length
  · rw [List.getElem?_append_left (by omega)] at h1 h2
    exact h i x y h1 h2
  · have hlt := (List.getElem?_eq_some_iff.mp h2).1
    rw [List.length_append, List.length_singleton] at hlt
    have e : i + 1 = r.length := by omega
    rw [e, List.getElem?_concat_length] at h2
    rw [List.getElem?_append_left (by omega)] at h1
    rw [List.getLast?_eq_getElem?, show r.length - 1 = i by omega, h1] at hl
    cases h2; cases hl
    exact hb
theorem on_mem {a b : Int} (h : b ∈ onway N p D a) : b ∈ nb N a ∧ at0 D a = p a b + at0 D b := by
  unfold onway at h
  rw [List.mem_filter] at h
  exact ⟨h.1, of_decide_eq_true h.2⟩
theorem on_head {a b : Int} (h : (onway N p D a).head? = some b) : b ∈ nb N a ∧ at0 D a = p a b + at0 D b := on_mem (List.mem_of_head? h)
/-- there is one such route -/
theorem Gdy.uniq {r s : List Int} (hg : onway N p D g = []) (hr : Rt n N u g r) (hs : Rt n N u g s) (gr : Gdy N p D r) (gs : Gdy N p D s) : r = s := by
  refine List.ext_getElem? fun i => ?_
  induction i with
  | zero => rw [← List.head?_eq_getElem?, ← List.head?_eq_getElem?, hr.hd, hs.hd]
  | succ i ih =>
    have stop : ∀ {q : List Int}, Rt n N u g q → Gdy N p D q → ∀ a, q[i]? = some a → q[i + 1]? = (onway N p D a).head? := fun {q} hq gq a ha => by
      cases e : q[i + 1]? with
      | some b => exact (gq i a b ha e).symm
      | none =>
        have h1 := (List.getElem?_eq_some_iff.mp ha).1
        have h2 := List.getElem?_eq_none_iff.mp e
        have hl := hq.la
        rw [List.getLast?_eq_getElem?, show q.length - 1 = i by omega, ha] at hl
        cases hl
        rw [hg]; rfl
    cases e : r[i]? with
    | none =>
      have h1 := List.getElem?_eq_none_iff.mp e
      have h2 := List.getElem?_eq_none_iff.mp (ih ▸ e)
      rw [List.getElem?_eq_none (by omega), List.getElem?_eq_none (by omega)]
    | some a => rw [stop hr gr a e, stop hs gs a (ih ▸ e)]
/-- what a route costs -/
def cost (p : Int → Int → Int) (r : List Int) : Int := ((lanesR r).map fun e => p e.1 e.2).sum
theorem tele (f : Nat → Int) : ∀ m : Nat, ((List.range m).map fun k => f k - f (k + 1)).sum = f 0 - f m
  | 0 => by simp
  | m + 1 => by
    rw [List.range_succ, List.map_append, List.sum_append, tele f m]
    simp
    omega
theorem Gdy.cost {r : List Int} (gr : Gdy N p D r) (hr : Rt n N u g r) : cost p r = at0 D u - at0 D g := by
  have hl : 0 < r.length := List.length_pos_iff.mpr hr.ne
  have e0 : r.getD 0 0 = u := by
    have := hr.hd
    rw [List.head?_eq_getElem?, getD_some (d := 0) hl] at this
    injection this
  have e1 : r.getD (r.length - 1) 0 = g := by
    have := hr.la
    rw [List.getLast?_eq_getElem?, getD_some (d := 0) (by omega)] at this
    injection this
  rw [← e0, ← e1, ← tele (fun k => at0 D (r.getD k 0)) (r.length - 1)]
  unfold Kx.cost lanesR
  rw [List.map_map]
  congr 1
  refine List.map_congr_left fun k hk => ?_
  have hk := List.mem_range.mp hk
  have := (on_head (gr k _ _ (getD_at (by omega)) (getD_at (by omega)))).2
  show p (r.getD k 0) (r.getD (k + 1) 0) = _
  omega
theorem descent_ok (hN : Near n N) {d : List ((Int × Int) × Int)} (hd : Priced n N d p) (hD : Heights n N p g D) (hg : Nd n g) (hu : Nd n u) {V : Int × List (Int × Int) × List (List Int) × List (Int × Int)} (e2 : V.2.2.1 = N) :
    Tr (N_descent_cNetitpiiqttitpiiqq_mpiiqiq_toi_i V d (D.map some) u) fun r => Rt n N u g r ∧ Gdy N p D r := by
  have hn := hN.le
  have p1 : ∀ x c, 1 ≤ p x c := fun x c => (hd.1 x c).1
  unfold N_descent_cNetitpiiqttitpiiqq_mpiiqiq_toi_i
  rw [e2]
  refine Tr.bind (Q := fun r => Rt n N u g r ∧ Gdy N p D r) (Tr.bind (Q := fun o => ∃ r, o = Ctl.go r ∧ Rt n N u g r ∧ Gdy N p D r) ?_ ?_) fun r hr => Tr.ok hr
  · refine tr_while (fun r => (∃ i, Dr n N (at0 D) u g i r) ∧ Gdy N p D r) (fun r => 30 - r.length) ⟨⟨0, Dr.one hu⟩, Gdy.one⟩ (by show 30 - 1 < _; omega) ?_
    rintro r ⟨⟨i, hF⟩, hG⟩
    obtain ⟨a, ea, na, ma⟩ := hF.fr.last
    have hlen := hF.fr.len
    have hln := nodup_le hF.fr.nd hF.fr.rg
    have a0 := hD.nn a na
    rw [ix_last ea (by omega)]
    dsimp only [Res.bind_ok]
    rw [at_some hD.len na]
    refine Tr.ok ⟨fun hb => ⟨r, rfl, ?_, hG⟩, fun hb => ?_⟩
    · have hb : ¬ 0 < at0 D a := of_decide_eq_false hb
      have : a = g := by
        cases Decidable.em (a = g) with
        | inl e => exact e
        | inr ne =>
          obtain ⟨c, hc, ec⟩ := hD.prd a na ne
          have := p1 a c
          have := hD.nn c (hN.rng a c na hc).1
          omega
      subst this
      exact hF.fr.done ea
    · have hb : 0 < at0 D a := of_decide_eq_true hb
      have ne : a ≠ g := fun e => by rw [e, hD.zero] at hb; omega
      obtain ⟨y, my, ey⟩ := hD.prd a na ne
      have hyo : y ∈ onway N p D a := List.mem_filter.mpr ⟨my, decide_eq_true ey⟩
      refine Tr.bind (Q := fun s => ∃ c, s = r ++ [c] ∧ (onway N p D a).head? = some c) (bind_eq (ix_nb hN.len na) (Tr.bind (Q := fun o => ∃ c, o = Ctl.go (r ++ [c]) ∧ (onway N p D a).head? = some c) ?_ ?_)) ?_
      · refine tr_forC (fun i s => s = r ∧ ((nb N a).take i).filter (fun x => decide (at0 D a = p a x + at0 D x)) = []) ⟨rfl, rfl⟩ ?_ ?_
        · rintro i x s hx ⟨rfl, hi⟩
          have mx := List.mem_of_getElem? hx
          have nx := (hN.rng a x na mx).1
          rw [hd.2 a x na mx, at_some hD.len nx]
          dsimp only [Res.bind_ok, unO]
          rw [appR_ok (by omega)]
          by_cases he : at0 D a = p a x + at0 D x
          · rw [show eqB (some (at0 D a)) (some (p a x + at0 D x)) = true by unfold eqB; exact decide_eq_true (by rw [he]), if_pos rfl]
            refine Tr.ok ⟨x, rfl, ?_⟩
            unfold onway
            have hlt := (List.getElem?_eq_some_iff.mp hx).1
            rw [← List.take_append_drop i (nb N a), List.filter_append, hi, List.nil_append, List.drop_eq_getElem_cons hlt]
            have : (nb N a)[i] = x := (List.getElem?_eq_some_iff.mp hx).2
            rw [this, List.filter_cons_of_pos (by exact decide_eq_true he)]
            rfl
          · rw [show eqB (some (at0 D a)) (some (p a x + at0 D x)) = false by unfold eqB; exact decide_eq_false (fun e => he (by injection e)), if_neg (by decide)]
            refine Tr.ok ⟨rfl, ?_⟩
            rw [List.take_succ, hx, List.filter_append, hi, List.nil_append]
            show [x].filter _ = []
            rw [List.filter_cons_of_neg (by simpa using he)]
            rfl
        · rintro s ⟨rfl, hi⟩
          rw [List.take_length] at hi
          unfold onway at hyo
          rw [hi] at hyo
          cases hyo
      · rintro _ ⟨c, rfl, hc⟩
        exact Tr.ok ⟨c, rfl, hc⟩
      · rintro _ ⟨c, rfl, hc⟩
        obtain ⟨c1, c2⟩ := on_head hc
        have := p1 a c
        refine Tr.ok ⟨⟨⟨i + 1, hF.snoc hN ea c1 (by omega)⟩, hG.snoc ea hc⟩, ?_⟩
        show 30 - (r ++ [c]).length < 30 - r.length
        rw [List.length_append, List.length_singleton]
        omega
  · rintro _ ⟨r, rfl, hr⟩
    exact Tr.ok hr
end
section
variable {κ α : Type} [DecidableEq κ]
def putAll (ps : List (κ × α)) (acc : List (κ × α)) : List (κ × α) := ps.foldl (fun a x => dputN a x.1 x.2) acc
theorem dc_pairs : ∀ (ps acc : List (κ × α)), dcR.go (fun _ => Res.ok true) (fun x : κ × α => Res.ok x.1) (fun x => Res.ok x.2) ps acc = .ok (putAll ps acc)
  | [], acc => rfl
  | x :: ps, acc => by
    unfold dcR.go
    show dcR.go _ _ _ ps (dputN acc x.1 x.2) = _
    rw [dc_pairs ps]
    rfl
theorem dcR_pairs {ps : List (κ × α)} (h : ps.length ≤ 1000000) : dcR ps (fun _ => Res.ok true) (fun x : κ × α => Res.ok x.1) (fun x => Res.ok x.2) = .ok (putAll ps []) := by
  unfold dcR
  rw [if_pos (szOk_yes h), dc_pairs]
theorem putAll_len (ps : List (κ × α)) : ∀ acc : List (κ × α), (putAll ps acc).length ≤ acc.length + ps.length := by
  induction ps with
  | nil => intro acc; exact Nat.le_refl _
  | cons x ps ih =>
    intro acc
    have := ih (dputN acc x.1 x.2)
    have := dput_len acc x.1 x.2
    show (putAll ps (dputN acc x.1 x.2)).length ≤ _
    rw [List.length_cons]
    omega
theorem putAll_snoc (ps acc : List (κ × α)) (x : κ × α) : putAll (ps ++ [x]) acc = dputN (putAll ps acc) x.1 x.2 := by
  unfold putAll
  rw [List.foldl_append]
  rfl
theorem putAll_from (P : α → Prop) : ∀ (ps acc : List (κ × α)), (∀ x ∈ ps, P x.2) → (∀ k w, dlookN acc k = some w → P w) → ∀ k w, dlookN (putAll ps acc) k = some w → P w
  | [], acc, _, h => h
  | x :: ps, acc, hp, h => putAll_from P ps (dputN acc x.1 x.2) (fun y hy => hp y (List.mem_cons_of_mem _ hy)) fun k w e => by
    rw [dlook_put] at e
    split at e
    · cases e; exact hp x List.mem_cons_self
    · exact h k w e
theorem putAll_has : ∀ (ps acc : List (κ × α)) (k : κ), ((∃ x ∈ ps, x.1 = k) ∨ ∃ w, dlookN acc k = some w) → ∃ w, dlookN (putAll ps acc) k = some w
  | [], acc, k, h => h.elim (fun ⟨x, hx, _⟩ => nomatch hx) id
  | x :: ps, acc, k, h => putAll_has ps (dputN acc x.1 x.2) k (by
    rw [dlook_put]
    by_cases e : x.1 = k
    · rw [if_pos e]; exact .inr ⟨_, rfl⟩
    · rw [if_neg e]
      rcases h with ⟨y, hy, ey⟩ | h
      · rcases List.mem_cons.mp hy with z | z
        · rw [z] at ey; exact absurd ey e
        · exact .inl ⟨y, z, ey⟩
      · exact .inr h)
end
section
variable {n : Nat} {N : List (List Int)} {L : List (Int × Int)} {zs : List Int}
def PD (n : Nat) (N : List (List Int)) (zs : List Int) : List ((Int × Int) × Int) := putAll ((lanesOf n N).zip zs) []
def PP (n : Nat) (N : List (List Int)) (zs : List Int) : Int → Int → Int := fun x c => (dlookN (PD n N zs) (x, c)).getD 1
theorem PD_priced (h : Near n N) (hl : zs.length = (lanesOf n N).length) (hz : ∀ z ∈ zs, 1 ≤ z) : Priced n N (PD n N zs) (PP n N zs) := by
  have val : ∀ k w, dlookN (PD n N zs) k = some w → 1 ≤ w := putAll_from (fun w => 1 ≤ w) _ [] (fun x hx => hz _ (List.of_mem_zip hx).2) fun k w e => nomatch e
  refine ⟨fun x c => ?_, fun x c hx hc => ?_⟩
  · unfold PP
    cases e : dlookN (PD n N zs) (x, c) with
    | none => exact ⟨by decide, by decide⟩
    | some w =>
      have := val _ w e
      exact ⟨this, (by omega : 0 ≤ w)⟩
  · have hm : (x, c) ∈ lanesOf n N := (mem_lanes h).mpr ⟨hx, hc⟩
    obtain ⟨i, hi⟩ := List.mem_iff_getElem?.mp hm
    have hlt := (List.getElem?_eq_some_iff.mp hi).1
    have e3 : zs[i]? = some (zs.getD i 0) := getD_some (by omega)
    obtain ⟨w, e⟩ := putAll_has ((lanesOf n N).zip zs) [] (x, c) (.inl ⟨((x, c), zs.getD i 0), List.mem_of_getElem? (i := i) (List.getElem?_zip_eq_some.mpr ⟨hi, e3⟩), rfl⟩)
    unfold PP dgetN
    rw [show dlookN (PD n N zs) (x, c) = some w from e]
    rfl
theorem frozen_i {r : List Int} (h : r.length ≤ 1000000) : N_frozen_li r = .ok r := by
  unfold N_frozen_li
  simp only [Res.bind_ret]
  exact (lcR_map (g := fun x => x) h fun x _ => rfl).trans (by rw [List.map_id'])
theorem mem_enumI {α : Type} {xs : List α} : ∀ {i : Nat} {q : Int × α}, q ∈ enumI i xs → q.2 ∈ xs := by
  induction xs with
  | nil => intro i q h; cases h
  | cons x xs ih =>
    intro i q h
    rcases List.mem_cons.mp h with e | e
    · rw [e]; exact List.mem_cons_self
    · exact List.mem_cons_of_mem _ (ih e)
theorem lane_prices (h : Net0 n L) (hl : zs.length = (lanesOf n (nearOf n L)).length) (hz : ∀ z ∈ zs, 1 ≤ z) : N_lane_prices_cNetitpiiqttitpiiqq_li (netV n L) zs = .ok (PD n (nearOf n L) zs) := by
  have hll := lanes_len h.near
  unfold N_lane_prices_cNetitpiiqttitpiiqq_li
  rw [frozen_i (by omega)]
  dsimp only [Res.bind_ok]
  rw [show (!decide ((zs.length : Int) = ((netV n L).2.2.2.length : Int))) = false by rw [decide_eq_true (show (zs.length : Int) = ((netV n L).2.2.2.length : Int) from by rw [hl]; rfl)]; rfl, if_neg (by decide)]
  refine (Tr.bind (Q := fun _ => True) (tr_forR (fun _ _ => True) trivial (fun i x s hx _ => ?_) fun _ _ => trivial) fun _ _ => Tr.of (dcR_pairs (by rw [List.length_zip]; show min (lanesOf n (nearOf n L)).length _ ≤ _; omega)) rfl : Tr _ fun d => d = PD n (nearOf n L) zs).eq
  have := hz _ (mem_enumI (List.mem_of_getElem? hx))
  rw [if_neg (by simp; omega)]
  exact Tr.ok trivial
theorem app2R_ok {α : Type} {xs : List (List α)} {i : Nat} {x : α} (hi : i < xs.length) (hz : (xs.getD i []).length < 1000000) (hx : xs.length < 1000000) : app2R xs (i : Int) x = .ok (xs.set i (xs.getD i [] ++ [x])) := by
  unfold app2R
  rw [show ixN xs.length (i : Int) = some i by unfold ixN; rw [if_pos (by omega), if_pos (by omega)]; simp]
  dsimp only
  rw [getD_some (d := []) hi]
  dsimp only
  rw [if_pos (szOk_yes (by omega))]
/-- the greedy routes of a priced net -/
structure PBk (n : Nat) (N : List (List Int)) (p : Int → Int → Int) (R : List (List (List Int))) : Prop where
  rows : Rows n N R
  gd : ∀ u v : Nat, u < n → v < n → ∃ D, Heights n N p (v : Int) D ∧ Gdy N p D (rtAt R u v)
def PB (n : Nat) (N : List (List Int)) (p : Int → Int → Int) (u v : Nat) (r : List Int) : Prop := Rt n N u v r ∧ ∃ D, Heights n N p (v : Int) D ∧ Gdy N p D r
theorem priced_book (h : Net0 n L) (hl : zs.length = (lanesOf n (nearOf n L)).length) (hz : ∀ z ∈ zs, 1 ≤ z) :
    Tr (N_priced_book_cNetitpiiqttitpiiqq_li (netV n L) zs) fun B => ∃ R, B = (netV n L, R) ∧ PBk n (nearOf n L) (PP n (nearOf n L) zs) R := by
  have hN := h.near
  have hn := hN.le
  have hd := PD_priced hN hl hz
  generalize hp : PP n (nearOf n L) zs = p at hd ⊢
  unfold N_priced_book_cNetitpiiqttitpiiqq_li
  refine bind_eq (lane_prices h hl hz) ?_
  refine bind_eq (v := List.replicate n ([] : List (List Int))) ?_ ?_
  · show (rngR (n : Int)).bind _ = _
    rw [rngR_nat (by omega)]
    refine (lcR_map (g := fun _ => []) (by rw [upto_length]; omega) fun x _ => rfl).trans ?_
    rw [List.map_const', upto_length]
  have look : ∀ {s : List (List (List Int))} {a : Nat} {x : List (List Int)} {u : Nat}, a < s.length → (s.set a x).getD u [] = if a = u then x else s.getD u [] := fun {s a x u} ha => by
    rw [List.getD_eq_getElem?_getD, List.getD_eq_getElem?_getD, List.getElem?_set]
    split
    · first | rfl | (rw [if_pos (by omega)]; rfl)
    · rfl
  refine Tr.bind (Q := fun R : List (List (List Int)) => R.length = n ∧ ∀ u, u < n → (R.getD u []).length = n ∧ ∀ v, v < n → PB n (nearOf n L) p u v (rtAt R u v)) (bind_eq (show rngR (netV n L).1 = .ok (upto n) from rngR_nat (by omega)) ?_) ?_
  · refine tr_forRn (fun k s => s.length = n ∧ ∀ u, u < n → (s.getD u []).length = k ∧ ∀ v, v < k → PB n (nearOf n L) p u v (rtAt s u v)) ⟨List.length_replicate, fun u hu => ⟨by rw [List.getD_eq_getElem?_getD, List.getElem?_replicate, if_pos hu]; rfl, fun v hv => by omega⟩⟩ ?_ fun s hs => hs
    rintro k s hk ⟨h1, h2⟩
    refine Tr.bind (goal_heights hN hd (Nd.of hk) rfl rfl) ?_
    rintro _ ⟨D, rfl, hD⟩
    refine Tr.bind (Q := fun s : List (List (List Int)) => s.length = n ∧ ∀ u, u < n → (s.getD u []).length = k + 1 ∧ ∀ v, v < k + 1 → PB n (nearOf n L) p u v (rtAt s u v)) (bind_eq (show rngR (netV n L).1 = .ok (upto n) from rngR_nat (by omega)) ?_) fun s hs => Tr.ok hs
    refine tr_forRn (fun a s => s.length = n ∧ ∀ u, u < n → (s.getD u []).length = (if u < a then k + 1 else k) ∧ ∀ v, v < (if u < a then k + 1 else k) → PB n (nearOf n L) p u v (rtAt s u v)) ⟨h1, fun u hu => by rw [if_neg (Nat.not_lt_zero u)]; exact h2 u hu⟩ ?_ ?_
    · rintro a s ha ⟨h3, h4⟩
      have h5 := h4 a ha
      rw [if_neg (Nat.lt_irrefl a)] at h5
      refine Tr.bind (Q := fun s' => ∃ r, s' = s.set a (s.getD a [] ++ [r]) ∧ Rt n (nearOf n L) a k r ∧ Gdy (nearOf n L) p D r) (bind_eq rfl (Tr.bind (Q := fun r => Rt n (nearOf n L) a k r ∧ Gdy (nearOf n L) p D r) ?_ ?_)) ?_
      · obtain ⟨r, er, hr⟩ := descent_ok hN hd hD (Nd.of hk) (Nd.of ha) (V := netV n L) rfl
        exact ⟨r, by rw [er]; rfl, hr⟩
      · intro r hr
        exact Tr.of (app2R_ok (by omega) (by omega) (by omega)) ⟨r, rfl, hr⟩
      · rintro _ ⟨r, rfl, r1, r2⟩
        refine Tr.ok ⟨by rw [List.length_set]; exact h3, fun u hu => ?_⟩
        unfold rtAt
        rw [look (by omega)]
        by_cases e : a = u
        · subst e
          rw [if_pos rfl, if_pos (by omega)]
          refine ⟨by rw [List.length_append, h5.1]; rfl, fun v hv => ?_⟩
          by_cases ev : v = k
          · subst ev
            have : (s.getD a [] ++ [r]).getD v [] = r := by
              have e3 := h5.1
              rw [← e3]; exact getD_eq
            rw [this]
            exact ⟨r1, D, hD, r2⟩
          · rw [getD_lt (by omega)]
            exact h5.2 v (by omega)
        · rw [if_neg e]
          have e2 : (if u < a + 1 then k + 1 else k) = if u < a then k + 1 else k := by
            by_cases z : u < a
            · rw [if_pos z, if_pos (by omega)]
            · rw [if_neg z, if_neg (by omega)]
          rw [e2]
          exact h4 u hu
    · rintro s ⟨h3, h4⟩
      refine ⟨h3, fun u hu => ?_⟩
      have := h4 u hu
      rwa [if_pos hu] at this
  · rintro R ⟨h1, h2⟩
    have hR : Rows n (nearOf n L) R := ⟨h1, fun u hu => (h2 u hu).1, fun u v hu hv => ((h2 u hu).2 v hv).1⟩
    exact Tr.of (book_init h hR) ⟨R, rfl, hR, fun u v hu hv => ((h2 u hu).2 v hv).2⟩
theorem told_heights (h : Net0 n L) (hl : zs.length = (lanesOf n (nearOf n L)).length) (hz : ∀ z ∈ zs, 1 ≤ z) {g : Int} (hg : Nd n g) :
    Tr (N_heights_cNetitpiiqttitpiiqq_li_i (netV n L) zs g) fun row => ∃ D : List Int, row = D.map some ∧ Heights n (nearOf n L) (PP n (nearOf n L) zs) g D := by
  unfold N_heights_cNetitpiiqttitpiiqq_li_i
  refine bind_eq (lane_prices h hl hz) ?_
  exact goal_heights h.near (PD_priced h.near hl hz) hg rfl rfl
end
end Kx
namespace Kx
open PySem PySem.Spec L2 Da
structure Lk (n : Nat) (L : List (Int × Int)) : Prop where
  lk : ∀ p ∈ L, 0 ≤ p.1 ∧ p.1 < p.2 ∧ p.2 < n
  nd : L.Nodup
  con : ∀ S : Int → Prop, S 0 → (∀ p ∈ L, S p.1 ↔ S p.2) → ∀ k, Nd n k → S k
theorem leP_tr (a b c : Int × Int) (h1 : leP a b = true) (h2 : leP b c = true) : leP a c = true := by
  unfold leP at *
  have h1 := of_decide_eq_true h1
  have h2 := of_decide_eq_true h2
  refine decide_eq_true ?_
  omega
theorem leP_tot (a b : Int × Int) : (leP a b || leP b a) = true := by
  unfold leP
  rw [Bool.or_eq_true, decide_eq_true_iff, decide_eq_true_iff]
  omega
theorem Lk.net0 {n : Nat} {L : List (Int × Int)} (h : Lk n L) (h0 : 0 < n) (h1 : n ≤ 24) (hl : L.length < 64) : Net0 n (L.mergeSort leP) :=
  ⟨h0, h1, by rw [List.length_mergeSort]; exact hl, fun p hp => h.lk p (List.mem_mergeSort.mp hp), (List.mergeSort_perm L leP).nodup_iff.mpr h.nd, List.pairwise_mergeSort leP_tr leP_tot L, fun S s0 hS k hk => h.con S s0 (fun p hp => hS p (List.mem_mergeSort.mpr hp)) k hk⟩
theorem nd_snoc {α : Type} {L : List α} {x : α} (h : L.Nodup) (m : x ∉ L) : (L ++ [x]).Nodup := by
  rw [List.nodup_append]
  exact ⟨h, by simp, fun a ha b hb e => m (by rw [← List.mem_singleton.mp hb, ← e]; exact ha)⟩
theorem Lk.more {n : Nat} {L : List (Int × Int)} (h : Lk n L) {a b : Int} (ha : Nd n a) (hb : Nd n b) (ne : a ≠ b) (nm : ((if b < a then b else a), (if b > a then b else a)) ∉ L) : Lk n (L ++ [((if b < a then b else a), (if b > a then b else a))]) := by
  refine ⟨fun p hp => ?_, nd_snoc h.nd nm, fun S s0 hS => h.con S s0 fun p hp => hS p (List.mem_append_left _ hp)⟩
  rcases List.mem_append.mp hp with z | z
  · exact h.lk p z
  · rw [List.mem_singleton.mp z]
    have := ha.1
    have := ha.2
    have := hb.1
    have := hb.2
    dsimp only
    split <;> split <;> omega
theorem ixR_ge {row : List Int} {z : Int} (h0 : 0 ≤ z) (h : z < row.length) : ixR row z = .ok (row.getD z.toNat 0) := ixR_of h0 (getD_some (by omega))
theorem extra {n : Nat} {row : List Int} {m : Nat} {c1 c2 c3 : Int} {L0 : List (Int × Int)} (hn : 0 < n) (hm : m ≤ 10) (h1 : 0 ≤ c1 ∧ c1 + 3 * m ≤ row.length + 2) (h2 : 0 ≤ c2 ∧ c2 + 3 * m ≤ row.length + 2) (h3 : 0 ≤ c3 ∧ c3 + 3 * m ≤ row.length + 2) (hL : Lk n L0) (hf : L0.length ≤ 30) : Tr (forR (σ := (List (Int × Int))) (fun x29 x30 => ((((((mulR 3 x30).bind fun x31 => (Res.ok (c2 + x31))).bind fun x32 => (ixR row x32)).bind fun x33 => (Res.ok x33)).bind fun x34 => (modR x34 (n : Int))).bind fun x35 =>
  ((((((mulR 3 x30).bind fun x36 => (Res.ok (c3 + x36))).bind fun x37 => (ixR row x37)).bind fun x38 => (Res.ok x38)).bind fun x39 => (modR x39 (n : Int))).bind fun x40 =>
  (((((((mulR 3 x30).bind fun x53 => (Res.ok (c1 + x53))).bind fun x54 => (ixR row x54)).bind fun x55 => (Res.ok (decide (0 < x55)))).bind fun x56 => (if x56 = true then (Res.ok ((!decide (x35 = x40)) && (!hasB ((if x40 < x35 then x40 else x35), (if x40 > x35 then x40 else x35)) x29))) else Res.ok false)).bind fun x58 => if x58 = true then ((appR x29 ((if x40 < x35 then x40 else x35), (if x40 > x35 then x40 else x35))).bind fun x57 =>
  Res.ok x57) else
  Res.ok x29).bind fun x59 =>
  Res.ok x59)))) (upto m) L0) fun L => Lk n L ∧ L.length ≤ 40 := by
  refine tr_forRn (fun i L => Lk n L ∧ L.length ≤ 30 + i) ⟨hL, by omega⟩ ?_ fun L h => ⟨h.1, by omega⟩
  rintro i L hi ⟨k1, k2⟩
  rw [mulR_64 (by decide) (by omega)]
  dsimp only [Res.bind_ok]
  rw [ixR_ge (by omega) (by omega), ixR_ge (by omega) (by omega), ixR_ge (by omega) (by omega)]
  dsimp only [Res.bind_ok]
  generalize row.getD (c1 + 3 * (i : Int)).toNat 0 = w
  generalize row.getD (c2 + 3 * (i : Int)).toNat 0 = a
  generalize row.getD (c3 + 3 * (i : Int)).toNat 0 = b
  rw [modR_pos (by omega), modR_pos (by omega)]
  dsimp only [Res.bind_ok]
  have ha : Nd n (a % (n : Int)) := ⟨Int.emod_nonneg _ (by omega), Int.emod_lt_of_pos _ (by omega)⟩
  have hb : Nd n (b % (n : Int)) := ⟨Int.emod_nonneg _ (by omega), Int.emod_lt_of_pos _ (by omega)⟩
  generalize a % (n : Int) = a at ha
  generalize b % (n : Int) = b at hb
  refine Tr.bind (Q := fun L => Lk n L ∧ L.length ≤ 30 + (i + 1)) ?_ fun L h => Tr.ok h
  by_cases c : 0 < w
  · rw [decide_eq_true c]
    refine Tr.st rfl ?_
    refine Tr.ite (fun e => ?_) fun e => Tr.ok ⟨k1, by omega⟩
    rw [Bool.and_eq_true] at e
    have ne : a ≠ b := by have := e.1; simpa using this
    have nm : ((if b < a then b else a), (if b > a then b else a)) ∉ L := fun m => by
      have := e.2
      rw [hasB_iff.mpr m] at this
      cases this
    rw [appR_ok (by omega)]
    exact Tr.ok ⟨k1.more ha hb ne nm, by rw [List.length_append]; simp; omega⟩
  · rw [decide_eq_false c]
    exact Tr.st rfl (Tr.itF rfl (Tr.ok ⟨k1, by omega⟩))
theorem net_tail {row A : List Int} {n : Nat} (hl : 19 ≤ row.length) (hA : A.Perm (upto n)) (n1 : 1 ≤ n) (n2 : n ≤ 7) : Tr ((((rng2R 1 (n : Int)).bind fun x27 => (forR (σ := (List (Int × Int))) (fun x15 x16 => (((((ixR row x16).bind fun x17 => (Res.ok x17)).bind fun x18 => (modR x18 x16)).bind fun x19 => (ixR A x19)).bind fun x20 =>
  (((((ixR A x16).bind fun x21 => (Res.ok (if x21 < x20 then x21 else x20))).bind fun x23 => (((ixR A x16).bind fun x22 => (Res.ok (if x22 > x20 then x22 else x20))).bind fun x24 => (Res.ok (x23, x24)))).bind fun x25 => appR x15 x25).bind fun x26 =>
  Res.ok x26))) x27 [])).bind fun x28 =>
  (((rngR 4).bind fun x60 => (forR (σ := (List (Int × Int))) (fun x29 x30 => ((((((mulR 3 x30).bind fun x31 => (Res.ok (8 + x31))).bind fun x32 => (ixR row x32)).bind fun x33 => (Res.ok x33)).bind fun x34 => (modR x34 (n : Int))).bind fun x35 =>
  ((((((mulR 3 x30).bind fun x36 => (Res.ok (9 + x36))).bind fun x37 => (ixR row x37)).bind fun x38 => (Res.ok x38)).bind fun x39 => (modR x39 (n : Int))).bind fun x40 =>
  (((((((mulR 3 x30).bind fun x53 => (Res.ok (7 + x53))).bind fun x54 => (ixR row x54)).bind fun x55 => (Res.ok (decide (0 < x55)))).bind fun x56 => (if x56 = true then (Res.ok ((!decide (x35 = x40)) && (!hasB ((if x40 < x35 then x40 else x35), (if x40 > x35 then x40 else x35)) x29))) else Res.ok false)).bind fun x58 => if x58 = true then ((appR x29 ((if x40 < x35 then x40 else x35), (if x40 > x35 then x40 else x35))).bind fun x57 =>
  Res.ok x57) else
  Res.ok x29).bind fun x59 =>
  Res.ok x59)))) x60 x28)).bind fun x61 =>
  (Res.ok ((n : Int), (x61.mergeSort leP)))))) fun w => w.1 = (n : Int) ∧ Net0 n w.2 := by
  have hAl : A.length = n := by rw [hA.length_eq, upto_length]
  have hAn : A.Nodup := hA.nodup_iff.mpr upto_nodup
  have hAm : ∀ x, x ∈ A ↔ Nd n x := fun x => by rw [hA.mem_iff, mem_upto]; rfl
  have at_ : ∀ j, j < n → ixR A (j : Int) = .ok (A.getD j 0) := fun j hj => ixR_nat (getD_some (by omega))
  have mem_ : ∀ j, j < n → A.getD j 0 ∈ A := fun j hj => List.mem_of_getElem? (getD_some (d := 0) (by omega))
  have inj_ : ∀ j k, j < n → k < n → A.getD j 0 = A.getD k 0 → j = k := fun j k hj hk e => by
    have pw := List.pairwise_iff_getElem.mp hAn
    have g : ∀ m (h : m < A.length), A.getD m 0 = A[m] := fun m h => by rw [List.getD_eq_getElem?_getD, List.getElem?_eq_getElem h]; rfl
    rw [g j (by omega), g k (by omega)] at e
    rcases Nat.lt_trichotomy j k with h | h | h
    · exact absurd e (pw j k _ _ h)
    · exact h
    · exact absurd e.symm (pw k j _ _ h)
  refine Tr.bind (Q := fun L => Lk n L ∧ L.length ≤ 30) (bind_eq (rng2R_ok (by omega) (by omega) (by omega) (by omega)) ?_) ?_
  · refine tr_forR (fun i L => L.length = i ∧ (∀ p ∈ L, 0 ≤ p.1 ∧ p.1 < p.2 ∧ p.2 < n) ∧ L.Nodup ∧ (∀ p ∈ L, (∃ j, j < i + 1 ∧ p.1 = A.getD j 0) ∧ ∃ j, j < i + 1 ∧ p.2 = A.getD j 0) ∧ ∀ S : Int → Prop, (∀ p ∈ L, S p.1 ↔ S p.2) → ∀ j, j < i + 1 → (S (A.getD 0 0) ↔ S (A.getD j 0))) ⟨rfl, fun p hp => (by cases hp), by simp, fun p hp => (by cases hp), fun S _ j hj => by rw [show j = 0 by omega]⟩ ?_ ?_
    · rintro i x L ex ⟨l1, l2, l3, l4, l5⟩
      obtain ⟨rfl, hi⟩ := rngI_get ex
      rw [ixR_ge (by omega) (by omega)]
      dsimp only [Res.bind_ok]
      generalize row.getD (1 + (i : Int)).toNat 0 = a
      rw [modR_pos (by omega)]
      dsimp only [Res.bind_ok]
      have a0 := Int.emod_nonneg a (show (1 + (i : Int)) ≠ 0 by omega)
      have a1 := Int.emod_lt_of_pos a (show (0 : Int) < 1 + (i : Int) by omega)
      generalize a % (1 + (i : Int)) = a at a0 a1
      obtain ⟨j, rfl⟩ : ∃ j : Nat, a = (j : Int) := ⟨a.toNat, by omega⟩
      rw [at_ j (by omega), show 1 + (i : Int) = ((i + 1 : Nat) : Int) by omega, at_ (i + 1) (by omega)]
      dsimp only [Res.bind_ok]
      have ne : A.getD j 0 ≠ A.getD (i + 1) 0 := fun e => by have := inj_ j (i + 1) (by omega) (by omega) e; omega
      have ha := (hAm _).mp (mem_ j (by omega))
      have hb := (hAm _).mp (mem_ (i + 1) (by omega))
      have old : ∀ p ∈ L, p.1 ≠ A.getD (i + 1) 0 ∧ p.2 ≠ A.getD (i + 1) 0 := fun p hp => by
        obtain ⟨⟨j1, q1, e1⟩, j2, q2, e2⟩ := l4 p hp
        exact ⟨fun e => by have := inj_ j1 (i + 1) (by omega) (by omega) (e1.symm.trans e); omega, fun e => by have := inj_ j2 (i + 1) (by omega) (by omega) (e2.symm.trans e); omega⟩
      have own : ∀ S : Int → Prop, (S (if A.getD (i + 1) 0 < A.getD j 0 then A.getD (i + 1) 0 else A.getD j 0) ↔ S (if A.getD (i + 1) 0 > A.getD j 0 then A.getD (i + 1) 0 else A.getD j 0)) → (S (A.getD j 0) ↔ S (A.getD (i + 1) 0)) := fun S h => by
        by_cases c : A.getD (i + 1) 0 < A.getD j 0
        · rw [if_pos c, if_neg (by omega)] at h; exact h.symm
        · rw [if_neg c, if_pos (by omega)] at h; exact h
      have any : ∀ (P : Int → Prop), P (A.getD j 0) → P (A.getD (i + 1) 0) → P (if A.getD (i + 1) 0 < A.getD j 0 then A.getD (i + 1) 0 else A.getD j 0) ∧ P (if A.getD (i + 1) 0 > A.getD j 0 then A.getD (i + 1) 0 else A.getD j 0) := fun P h1 h2 => by
        constructor <;> split <;> assumption
      have lkn : 0 ≤ (if A.getD (i + 1) 0 < A.getD j 0 then A.getD (i + 1) 0 else A.getD j 0) ∧ (if A.getD (i + 1) 0 < A.getD j 0 then A.getD (i + 1) 0 else A.getD j 0) < (if A.getD (i + 1) 0 > A.getD j 0 then A.getD (i + 1) 0 else A.getD j 0) ∧ (if A.getD (i + 1) 0 > A.getD j 0 then A.getD (i + 1) 0 else A.getD j 0) < n := by
        have := ha.1
        have := ha.2
        have := hb.1
        have := hb.2
        split <;> split <;> omega
      have nm : ((if A.getD (i + 1) 0 < A.getD j 0 then A.getD (i + 1) 0 else A.getD j 0), (if A.getD (i + 1) 0 > A.getD j 0 then A.getD (i + 1) 0 else A.getD j 0)) ∉ L := fun m => by
        have := old _ m
        dsimp only at this
        by_cases c : A.getD (i + 1) 0 < A.getD j 0
        · rw [if_pos c] at this; exact this.1 rfl
        · rw [if_neg c, if_pos (show A.getD (i + 1) 0 > A.getD j 0 by omega)] at this; exact this.2 rfl
      rw [appR_ok (by omega)]
      refine Tr.ok ⟨by rw [List.length_append, l1]; rfl, fun p hp => ?_, nd_snoc l3 nm, fun p hp => ?_, fun S hS k hk => ?_⟩
      · rcases List.mem_append.mp hp with y | y
        · exact l2 p y
        · rw [List.mem_singleton.mp y]; exact lkn
      · rcases List.mem_append.mp hp with y | y
        · obtain ⟨⟨j1, q1, e1⟩, j2, q2, e2⟩ := l4 p y
          exact ⟨⟨j1, by omega, e1⟩, j2, by omega, e2⟩
        · rw [List.mem_singleton.mp y]
          exact any (fun v => ∃ j, j < i + 1 + 1 ∧ v = A.getD j 0) ⟨j, by omega, rfl⟩ ⟨i + 1, by omega, rfl⟩
      · have h5 := l5 S fun p hp => hS p (List.mem_append_left _ hp)
        by_cases e : k = i + 1
        · subst e
          exact (h5 j (by omega)).trans (own S (hS _ (List.mem_append_right _ (List.mem_singleton.mpr rfl))))
        · exact h5 k (by omega)
    · rintro L ⟨l1, l2, l3, l4, l5⟩
      rw [rngI_length] at l1 l5
      refine ⟨⟨l2, l3, fun S s0 hS k hk => ?_⟩, by omega⟩
      have h5 := l5 S hS
      have get : ∀ x, Nd n x → ∃ j, j < n ∧ x = A.getD j 0 := fun x hx => by
        obtain ⟨j, hj, e⟩ := mem_getD (d := 0) ((hAm x).mpr hx)
        exact ⟨j, by omega, e⟩
      obtain ⟨j0, q0, e0⟩ := get 0 ⟨by omega, by omega⟩
      obtain ⟨j, q, e⟩ := get k hk
      rw [e]
      refine (h5 j (by omega)).mp ((h5 j0 (by omega)).mpr ?_)
      rw [← e0]
      exact s0
  · rintro L ⟨g1, g2⟩
    refine Tr.bind (Q := fun L => Lk n L ∧ L.length ≤ 40) (bind_eq (rngR_nat (n := 4) (by omega)) (extra (m := 4) (by omega) (by omega) (by omega) (by omega) (by omega) g1 g2)) ?_
    rintro L ⟨g3, g4⟩
    exact Tr.ok ⟨rfl, g3.net0 (by omega) (by omega) (by omega)⟩
end Kx
namespace Kx
open PySem PySem.Spec L2 Da
theorem digs_at {sizes row : List Int} (h : Digs sizes row) {i : Nat} {s : Int} (hs : sizes[i]? = some s) : 0 ≤ row.getD i 0 ∧ row.getD i 0 < s := by
  obtain ⟨r, e, h0, h1⟩ := h.get hs
  rw [List.getD_eq_getElem?_getD, e]
  exact ⟨h0, h1⟩
theorem mem_lanesR {r : List Int} {a b : Int} : (a, b) ∈ lanesR r ↔ ∃ k : Nat, k + 1 < r.length ∧ r.getD k 0 = a ∧ r.getD (k + 1) 0 = b := by
  unfold lanesR
  rw [List.mem_map]
  constructor
  · rintro ⟨k, hk, e⟩
    have := List.mem_range.mp hk
    cases e
    exact ⟨k, by omega, rfl, rfl⟩
  · rintro ⟨k, hk, e1, e2⟩
    exact ⟨k, List.mem_range.mpr (by omega), by rw [e1, e2]⟩
section
variable {n : Nat} {N : List (List Int)} {R : List (List (List Int))}
theorem Rows.mem (h : Rows n N R) {row : List (List Int)} (hr : row ∈ R) : row.length = n ∧ ∀ r ∈ row, r ≠ [] ∧ r.length ≤ n := by
  obtain ⟨u, hu, rfl⟩ := mem_getD (d := []) hr
  rw [h.len] at hu
  refine ⟨h.row u hu, fun r hr => ?_⟩
  obtain ⟨v, hv, rfl⟩ := mem_getD (d := []) hr
  rw [h.row u hu] at hv
  have := h.rt u v hu hv
  exact ⟨this.ne, this.len⟩
end
end Kx
namespace Kx
open PySem PySem.Spec L2 Da
theorem net_of2 {row : List Int} {u : Int} (hl : 19 ≤ row.length) (h0 : 0 ≤ row.getD 0 0 ∧ row.getD 0 0 < 8) (hu : 1 ≤ u) : Tr (N_law_net_li_i row u) fun w => ∃ n : Nat, w.1 = n ∧ n ≤ 7 ∧ (n : Int) ≤ u ∧ Net0 n w.2 := by
  unfold N_law_net_li_i
  have e0 : ixR row 0 = .ok (row.getD 0 0) := ixR_nat (i := 0) (getD_some (by omega))
  generalize row.getD 0 0 = z at e0 h0
  rw [e0]
  dsimp only [Res.bind_ok]
  have tab : ∃ s : Nat, ixR [3, 4, 5, 6, 7, 2, 4, 1] z = .ok (s : Int) ∧ 1 ≤ s ∧ s ≤ 7 := by
    rcases (show z = 0 ∨ z = 1 ∨ z = 2 ∨ z = 3 ∨ z = 4 ∨ z = 5 ∨ z = 6 ∨ z = 7 by omega) with rfl | rfl | rfl | rfl | rfl | rfl | rfl | rfl
    · exact ⟨3, rfl, by decide⟩
    · exact ⟨4, rfl, by decide⟩
    · exact ⟨5, rfl, by decide⟩
    · exact ⟨6, rfl, by decide⟩
    · exact ⟨7, rfl, by decide⟩
    · exact ⟨2, rfl, by decide⟩
    · exact ⟨4, rfl, by decide⟩
    · exact ⟨1, rfl, by decide⟩
  obtain ⟨s, es, s1, s2⟩ := tab
  rw [es]
  dsimp only [Res.bind_ok]
  obtain ⟨n, hn, n1, n2, n3⟩ : ∃ n : Nat, (if (s : Int) < u then (s : Int) else u) = (n : Int) ∧ 1 ≤ n ∧ n ≤ 7 ∧ (n : Int) ≤ u := by
    refine ⟨(if (s : Int) < u then (s : Int) else u).toNat, ?_, ?_, ?_, ?_⟩ <;> split <;> omega
  rw [hn]
  refine bind_eq (v := upto n) ?_ ?_
  · rw [rngR_nat (by omega)]
    exact (lcR_map (g := fun x => x) (by rw [upto_length]; omega) fun x _ => rfl).trans (by rw [List.map_id'])
  refine Tr.bind (Q := fun w : List Int × List Int => (w.2 ++ w.1).Perm (upto n)) (bind_eq (rng2R_ok (by omega) (by omega) (by omega) (by omega)) ?_) ?_
  · refine tr_forR (fun i w => (w.2 ++ w.1).Perm (upto n) ∧ w.2.length = i) ⟨List.Perm.refl _, rfl⟩ ?_ fun w hw => hw.1
    rintro i x ⟨lf, nm⟩ ex ⟨hp, hy⟩
    obtain ⟨rfl, hi⟩ := rngI_get ex
    dsimp only at hp hy
    have hL := hp.length_eq
    rw [List.length_append, upto_length] at hL
    rw [ixR_ge (by omega) (by omega)]
    dsimp only [Res.bind_ok]
    generalize row.getD (1 + (i : Int)).toNat 0 = a
    rw [divR_64 (by omega) (by omega)]
    dsimp only [Res.bind_ok]
    rw [modR_pos (by omega)]
    dsimp only [Res.bind_ok, nx_ok]
    have b0 := Int.emod_nonneg (a / (1 + (i : Int))) (show (lf.length : Int) ≠ 0 by omega)
    have b1 := Int.emod_lt_of_pos (a / (1 + (i : Int))) (show (0 : Int) < (lf.length : Int) by omega)
    generalize a / (1 + (i : Int)) % (lf.length : Int) = c at b0 b1
    rw [popR_of b0 b1 (by omega)]
    dsimp only [Res.bind_ok, nx_ok]
    rw [appR_ok (by omega)]
    dsimp only [Res.bind_ok, nx_ok]
    refine Tr.ok ⟨?_, by rw [List.length_append, hy]; rfl⟩
    dsimp only
    rw [List.append_assoc]
    exact (List.Perm.append_left nm (take_out' (by omega))).trans hp
  rintro ⟨lf, nm⟩ hA
  dsimp only at hA ⊢
  have hL := hA.length_eq
  rw [List.length_append, upto_length] at hL
  refine bind_eq (v := nm ++ lf) (by unfold catR; rw [if_pos (szOk_yes (by omega))]) ?_
  exact Tr.imp (net_tail hl hA (by omega) (by omega)) fun w hw => ⟨n, hw.1, by omega, n3, hw.2⟩
/-- one route exchanged -/
theorem Rows.set {n : Nat} {N : List (List Int)} {R : List (List (List Int))} (h : Rows n N R) {a b : Nat} (ha : a < n) (hb : b < n) {r : List Int} (hr : Rt n N a b r) : Rows n N (R.set a ((R.getD a []).set b r)) := by
  have hl := h.len
  refine ⟨by rw [List.length_set]; exact hl, fun u hu => ?_, fun u v hu hv => ?_⟩
  · rw [getD_set (by omega)]
    split
    · rw [List.length_set]; exact h.row a ha
    · exact h.row u hu
  · unfold rtAt
    rw [getD_set (by omega)]
    by_cases e : a = u
    · subst e
      rw [if_pos rfl, getD_set (by rw [h.row a ha]; exact hb)]
      by_cases e2 : b = v
      · subst e2
        rw [if_pos rfl]; exact hr
      · rw [if_neg e2]; exact h.rt a v hu hv
    · rw [if_neg e]; exact h.rt u v hu hv
end Kx
namespace Kx
open PySem PySem.Spec L2 Da
theorem pow_6 : powR 10 6 = .ok 1000000 := powR_of (stuck_iff.mpr (by omega)) (by decide +kernel)
theorem pow_38 : powR 10 38 = .ok 100000000000000000000000000000000000000 := powR_of (stuck_iff.mpr (by omega)) (by decide +kernel)
theorem same_toi15 (x : List (Option Int)) (h : x.length ≤ 1000000) : N_law_same_toi_loi x x = .ok true := by
  unfold N_law_same_toi_loi
  rw [decide_eq_true rfl, if_neg (by decide), rngR_nat (by omega)]
  dsimp only [Res.bind_ok]
  refine Tr.eq (tr_all (fun k hk => ?_) (Tr.ok rfl))
  obtain ⟨i, rfl, hi⟩ := Nd.nat (mem_upto.mp hk)
  rw [ixR_nat (getD_some (d := none) hi)]
  dsimp only [Res.bind_ok]
  generalize x.getD i none = y
  cases y with
  | none => exact Tr.ok rfl
  | some v =>
    unfold N_law_same_oi_oi N_law_whole_oi
    refine bind_eq (v := false) ?_ (Tr.ok rfl)
    show (Res.ok (eqB (some v) (some v))).bind _ = _
    unfold eqB
    rw [decide_eq_true rfl]
    rfl
section
variable {n : Nat} {N : List (List Int)} {zs row : List Int}
theorem prices15 {m : Nat} (hm : m ≤ 24000) (hr : row.length = 31) (hb : ∀ k : Nat, 1 ≤ k → k < 31 → 0 ≤ row.getD k 0 ∧ row.getD k 0 < 1000000) (h0 : 0 ≤ row.getD 0 0 ∧ row.getD 0 0 < 3) :
    Tr ((rngR (m : Int)).bind fun x30 => (forR (σ := (List Int)) (fun x16 x17 => ((((((mulR x17 7).bind fun x18 => (Res.ok (x18 % 30))).bind fun x19 => (Res.ok (1 + x19))).bind fun x20 => (ixR row x20)).bind fun x21 => (Res.ok (x21 + (x17 % 3)))).bind fun x22 =>
  (((((((powR 10 38).bind fun x23 => (mulR x23 (1 + (x22 % 5)))).bind fun x24 => (Res.ok (x24 + (x22 % 7)))).bind fun x25 => (Res.ok [(1 + (x22 % 4)), (1 + (x22 % 1000)), x25])).bind fun x26 => ((ixR row 0).bind fun x27 => (ixR x26 x27))).bind fun x28 => appR x16 x28).bind fun x29 =>
  Res.ok x29))) x30 [])) fun zs => zs.length = m ∧ ∀ z ∈ zs, 1 ≤ z := by
  rw [rngR_nat (by omega), Res.bind_ok]
  refine tr_forRn (fun i s => s.length = i ∧ ∀ z ∈ s, 1 ≤ z) ⟨rfl, fun z h => nomatch h⟩ ?_ fun s hs => hs
  rintro k s hk ⟨h1, h2⟩
  rw [mulR_64 (by omega) (by omega)]
  dsimp only [Res.bind_ok]
  have i0 : ((k : Int) * 7 % 30) < 30 := by omega
  have i1 : 0 ≤ ((k : Int) * 7 % 30) := by omega
  have e1 : ixR row (1 + (k : Int) * 7 % 30) = .ok (row.getD (1 + k * 7 % 30) 0) := by
    rw [show 1 + (k : Int) * 7 % 30 = ((1 + k * 7 % 30 : Nat) : Int) by omega]
    exact ixR_nat (getD_some (by omega))
  have b1 := hb (1 + k * 7 % 30) (by omega) (by omega)
  rw [e1]
  dsimp only [Res.bind_ok]
  generalize row.getD (1 + k * 7 % 30) 0 = z at b1 ⊢
  generalize hd : z + (k : Int) % 3 = d
  have d0 : 0 ≤ d := by omega
  rw [pow_38]
  dsimp only [Res.bind_ok]
  have m44 : mulR 100000000000000000000000000000000000000 (1 + d % 5) = .ok (100000000000000000000000000000000000000 * (1 + d % 5)) := by
    refine mulR_44 ?_ ?_
    · exact Nat.lt_of_lt_of_le (show (100000000000000000000000000000000000000 : Int).natAbs < 2 ^ 200 by decide +kernel) (Nat.pow_le_pow_right (by decide) (by decide))
    · exact Nat.lt_of_lt_of_le (show (1 + d % 5).natAbs < 2 ^ 5 by omega) (Nat.pow_le_pow_right (by decide) (by decide))
  rw [m44]
  dsimp only [Res.bind_ok]
  have hr0 : ixR row 0 = .ok (row.getD 0 0) := ixR_nat (i := 0) (getD_some (by omega))
  rw [hr0]
  dsimp only [Res.bind_ok]
  refine Tr.bind (Q := fun s => s.length = k + 1 ∧ ∀ z ∈ s, 1 ≤ z) ?_ fun s hs => Tr.ok hs
  obtain ⟨w, ew, hw⟩ : ∃ w, ixR [1 + d % 4, 1 + d % 1000, 100000000000000000000000000000000000000 * (1 + d % 5) + d % 7] (row.getD 0 0) = .ok w ∧ 1 ≤ w := by
    obtain ⟨x, ex, mx⟩ := ixR_mem (xs := [1 + d % 4, 1 + d % 1000, 100000000000000000000000000000000000000 * (1 + d % 5) + d % 7]) h0.1 (by show row.getD 0 0 < 3; exact h0.2)
    refine ⟨x, ex, ?_⟩
    simp only [List.mem_cons, List.not_mem_nil, or_false] at mx
    omega
  refine bind_eq ew ?_
  refine Tr.of (appR_ok (by omega)) ⟨by rw [List.length_append, h1]; rfl, fun y hy => ?_⟩
  rcases List.mem_append.mp hy with e | e
  · exact h2 y e
  · rw [List.mem_singleton.mp e]; exact hw
theorem dict15 (h : Near n N) (hl : zs.length = (lanesOf n N).length) : ((rngR ((lanesOf n N).length : Int)).bind fun x37 => (forR (σ := (List ((Int × Int) × Int))) (fun x32 x33 => (((ixR zs x33).bind fun x34 => (ixR (lanesOf n N) x33).bind fun x35 => dputR x32 x35 x34).bind fun x36 =>
  Res.ok x36)) x37 [])) = .ok (PD n N zs) := by
  have hlen := lanes_len h
  rw [rngR_nat (by omega), Res.bind_ok]
  refine (tr_forRn (Q := fun d => d = PD n N zs) (fun i d => d = putAll (((lanesOf n N).zip zs).take i) []) rfl ?_ fun d hd => ?_).eq
  · rintro i d hi rfl
    have e1 := getD_some (d := 0) (xs := zs) (i := i) (by omega)
    have e2 := getD_some (d := (0, 0)) (xs := lanesOf n N) (i := i) hi
    rw [ixR_nat e1, ixR_nat e2]
    dsimp only [Res.bind_ok]
    have := putAll_len (((lanesOf n N).zip zs).take i) []
    rw [List.length_take, List.length_zip] at this
    rw [dput_ok (by simp only [List.length_nil] at this; omega)]
    refine Tr.ok ?_
    rw [List.take_succ, show ((lanesOf n N).zip zs)[i]? = some ((lanesOf n N).getD i (0, 0), zs.getD i 0) from List.getElem?_zip_eq_some.mpr ⟨e2, e1⟩]
    exact (putAll_snoc _ _ ((lanesOf n N).getD i (0, 0), zs.getD i 0)).symm
  · rw [hd, List.take_of_length_le (by rw [List.length_zip]; omega)]
    rfl
theorem lane_at {r : List Int} {k : Nat} (hk : k + 1 < r.length) : (r.getD k 0, r.getD (k + 1) 0) ∈ lanesR r := mem_lanesR.mpr ⟨k, hk, rfl, rfl⟩
theorem two_at {r : List Int} {x : Int} (hx : x ∈ upto (r.length - 1)) : ((ixR r x).bind fun a => ((ixR r (x + 1)).bind fun b => (Res.ok (a, b)))) = .ok (r.getD x.toNat 0, r.getD (x.toNat + 1) 0) ∧ (r.getD x.toNat 0, r.getD (x.toNat + 1) 0) ∈ lanesR r := by
  obtain ⟨k, rfl, hk⟩ := Nd.nat (mem_upto.mp hx)
  rw [ixR_nat (getD_at (by omega)), show (k : Int) + 1 = ((k + 1 : Nat) : Int) by omega]
  dsimp only [Res.bind_ok]
  rw [ixR_nat (getD_at (by omega))]
  exact ⟨rfl, lane_at (by omega)⟩
variable {p : Int → Int → Int} {L : List (Int × Int)} {R : List (List (List Int))}
theorem has15 (hp : PP n N zs = p) (hd : Priced n N (PD n N zs) p) {x c : Int} (hx : Nd n x) (hc : c ∈ nb N x) : dhasN (PD n N zs) (x, c) = true := by
  have := hd.2 x c hx hc
  unfold dgetN at this
  unfold dhasN
  cases e : dlookN (PD n N zs) (x, c) with
  | none => rw [e] at this; cases this
  | some w => rfl
theorem one15 (hN : Near n N) (hl : zs.length = (lanesOf n N).length) (hz : ∀ z ∈ zs, 1 ≤ z) (hR : PBk n N (PP n N zs) R) {D : List Int} {g a : Int} (hg : Nd n g) (ha : Nd n a) (hD : Heights n N (PP n N zs) g D) {V : Int × List (Int × Int) × List (List Int) × List (Int × Int)} :
    Tr (((ixR N a).bind fun x53 => lcR x53 (fun x50 => Res.ok true) (fun x50 => ((dgetN (PD n N zs) (a, x50)).bind fun x51 => (((ixR (D.map some) x50).bind unO).bind fun x52 => (Res.ok (x51 + x52)))))).bind fun x54 =>
  (((nx ((lcR x54 (fun x55 => (((ixR (D.map some) a).bind unO).bind fun x56 => (Res.ok (decide (x55 < x56))))) (fun x55 => (Res.ok x55))).bind fun x57 => (Res.ok (x57.length : Int)))).bind fun x58 => (Res.ok (decide (0 < x58)))).bind fun x83 => if x83 = true then Res.ok (.ret false) else
  ((if (!decide (a = g)) = true then (nx (((ixR (D.map some) a).bind unO).bind fun x59 => (Res.ok (!decide (x59 ∈ x54))))) else Res.ok false).bind fun x82 => if x82 = true then Res.ok (.ret false) else
  ((N_Book_call_cBookcNetitpiiqttitpiiqqtttiq_i_i (V, R) a g).bind fun x60 =>
  ((if (decide ((n : Int) < (x60.length : Int))) = true then Res.ok true else (((ixR x60 0).bind fun x61 => (Res.ok (!decide (x61 = a)))).bind fun x63 => (if x63 = true then Res.ok true else ((ixR x60 (-1)).bind fun x62 => (Res.ok (!decide (x62 = g))))))).bind fun x81 => if x81 = true then Res.ok (.ret false) else
  (((((rngR ((x60.length : Int) - 1)).bind fun x68 => lcR x68 (fun x64 => (nx (((ixR x60 x64).bind fun x65 => ((ixR x60 (x64 + 1)).bind fun x66 => (Res.ok (x65, x66)))).bind fun x67 => (Res.ok (!dhasN (PD n N zs) x67))))) (fun x64 => (Res.ok x64))).bind fun x69 => (Res.ok (x69.length : Int))).bind fun x70 => (Res.ok (decide (0 < x70)))).bind fun x80 => if x80 = true then Res.ok (.ret false) else
  (((((rngR ((x60.length : Int) - 1)).bind fun x75 => lcR x75 (fun x71 => Res.ok true) (fun x71 => (((ixR x60 x71).bind fun x72 => ((ixR x60 (x71 + 1)).bind fun x73 => (Res.ok (x72, x73)))).bind fun x74 => (dgetN (PD n N zs) x74)))).bind fun x76 => (Res.ok x76.sum)).bind fun x77 => ((ixR (D.map some) a).bind fun x78 => (Res.ok (!eqB (some x77) x78)))).bind fun x79 => if x79 = true then Res.ok (.ret false) else
  Res.ok (.go ())))))))) fun o : Ctl Unit Bool => o = .go () := by
  have hn := hN.le
  have hd := PD_priced hN hl hz
  generalize hp : PP n N zs = p at hd hR hD
  have p1 : ∀ x c, 1 ≤ p x c := fun x c => (hd.1 x c).1
  have ea : (ixR (D.map some) a) = .ok (some (at0 D a)) := at_some hD.len ha
  have nl := nb_len hN a
  refine bind_eq (v := (nb N a).map fun b => p a b + at0 D b) ?_ ?_
  · rw [ix_nb hN.len ha]
    refine lcR_map (by omega) fun x hx => ?_
    rw [hd.2 a x ha hx, at_some hD.len (hN.rng a x ha hx).1]
    rfl
  refine bind_eq (v := false) ?_ ?_
  · rw [lcR_filter (p := fun _ => false) (g := fun x => x) (by rw [List.length_map]; omega) (fun x hx => ?_) fun x _ h => nomatch h]
    · rw [List.filter_eq_nil_iff.mpr (fun x _ => by simp)]; rfl
    · obtain ⟨b, hb, rfl⟩ := List.mem_map.mp hx
      rw [ea]
      show Res.ok (decide (_ < at0 D a)) = _
      rw [decide_eq_false (by have := hD.le a b ha hb; omega)]
  rw [if_neg (by decide)]
  refine bind_eq (v := false) ?_ ?_
  · by_cases e : a = g
    · rw [if_neg (by simp [e])]
    · rw [if_pos (by simp [e]), ea]
      obtain ⟨c, hc, ec⟩ := hD.prd a ha e
      show Res.ok (!decide (at0 D a ∈ _)) = _
      rw [decide_eq_true (List.mem_map.mpr ⟨c, hc, ec.symm⟩)]
      rfl
  rw [if_neg (by decide)]
  obtain ⟨u, rfl, hu⟩ := ha.nat
  obtain ⟨v, rfl, hv⟩ := hg.nat
  refine bind_eq (show N_Book_call_cBookcNetitpiiqttitpiiqqtttiq_i_i (V, R) u v = .ok (rtAt R u v) from hR.rows.ix hu hv) ?_
  have hr := hR.rows.rt u v hu hv
  obtain ⟨D', hD', hG⟩ := hR.gd u v hu hv
  have : D' = D := hD'.uniq hN p1 hD
  subst this
  have hlen := hr.len
  have hpos : 0 < (rtAt R u v).length := List.length_pos_iff.mpr hr.ne
  have hcost := hG.cost hr
  generalize rtAt R u v = r at hr hlen hpos hcost ⊢
  refine bind_eq (v := false) ?_ ?_
  · rw [if_neg (by rw [decide_eq_true_iff]; omega), ix_head hr.hd, ix_last hr.la (by omega)]
    show (Res.ok (!decide ((u : Int) = u))).bind _ = _
    rw [decide_eq_true rfl]
    show Res.ok (!decide ((v : Int) = v)) = _
    rw [decide_eq_true rfl]
    rfl
  rw [if_neg (by decide)]
  have rg : rngR ((r.length : Int) - 1) = .ok (upto (r.length - 1)) := by
    rw [show (r.length : Int) - 1 = ((r.length - 1 : Nat) : Int) by omega]
    exact rngR_nat (by omega)
  rw [rg]
  dsimp only [Res.bind_ok]
  refine bind_eq (v := false) ?_ ?_
  · rw [lcR_filter (p := fun _ => false) (g := fun x => x) (by rw [upto_length]; omega) (fun x hx => ?_) fun x _ h => nomatch h]
    · rw [List.filter_eq_nil_iff.mpr (fun x _ => by simp)]; rfl
    · obtain ⟨e1, e2⟩ := two_at hx
      obtain ⟨q1, q2, q3⟩ := hr.lane e2
      rw [e1]
      show Res.ok (!dhasN _ _) = _
      rw [has15 hp hd q1 q3]
      rfl
  rw [if_neg (by decide)]
  refine bind_eq (v := false) ?_ (by rw [if_neg (by decide)]; exact Tr.ok rfl)
  rw [lcR_map (g := fun x => p (r.getD x.toNat 0) (r.getD (x.toNat + 1) 0)) (by rw [upto_length]; omega) fun x hx => ?_]
  · rw [ea]
    dsimp only [Res.bind_ok]
    have es : ((upto (r.length - 1)).map fun x => p (r.getD x.toNat 0) (r.getD (x.toNat + 1) 0)).sum = at0 D' u := by
      have e0 := hD.zero
      rw [e0] at hcost
      rw [show at0 D' u = cost p r by omega]
      unfold cost lanesR upto
      rw [List.map_map, List.map_map]
      rfl
    rw [es]
    unfold eqB
    rw [decide_eq_true rfl]
    rfl
  · obtain ⟨e1, e2⟩ := two_at hx
    obtain ⟨q1, q2, q3⟩ := hr.lane e2
    rw [e1]
    exact hd.2 _ _ q1 q3
end
theorem law_ok (ns : List Int) : Tr (N_law_fi ns) fun b => b = true := by
  unfold N_law_fi
  obtain ⟨c0, e0⟩ := law_cell ns 0 (by omega) (by omega)
  obtain ⟨c1, e1⟩ := law_cell ns 1 (by omega) (by omega)
  refine Tr.bind (Q := fun w : Int × List (Int × Int) => ∃ n : Nat, w.1 = n ∧ n ≤ 7 ∧ Net0 n w.2) ?_ ?_
  · have cc : (((repR [60] 6).bind fun x1 => (catR [8] x1)).bind fun x2 => ((repR [3, 42, 42] 4).bind fun x3 => (catR x2 x3))) = .ok ([8] ++ (List.replicate (6 : Int).toNat [60]).flatten ++ (List.replicate (4 : Int).toNat [(3 : Int), 42, 42]).flatten) := by
      rw [repR_ok (by decide) (by decide), repR_ok (by decide) (by decide)]
      dsimp only [Res.bind_ok]
      unfold catR
      rw [if_pos (szOk_yes (by decide))]
      dsimp only [Res.bind_ok]
      rw [if_pos (szOk_yes (by decide))]
    obtain ⟨r1, d1, h1⟩ := law_digits c0 ([8] ++ (List.replicate (6 : Int).toNat [60]).flatten ++ (List.replicate (4 : Int).toNat [(3 : Int), 42, 42]).flatten) (by decide) (by decide)
    have l1 : r1.length = 19 := h1.1
    refine bind_eq (v := r1) (by rw [e0, Res.bind_ok, cc, Res.bind_ok, d1]) ?_
    exact Tr.imp (net_of2 (by omega) (digs_at h1 (i := 0) (s := 8) rfl) (by omega)) fun w ⟨n, q1, q2, q3, q4⟩ => ⟨n, q1, q2, q4⟩
  rintro ⟨_, L⟩ ⟨n, rfl, h7, h⟩
  dsimp only at h ⊢
  have hn := h.le
  have hp := h.pos
  have hN := h.near
  have hll := lanes_len hN
  refine bind_eq (law_near h) ?_
  refine bind_eq (law_lanes hN) ?_
  obtain ⟨row, d2, h2⟩ := law_digits c1 ([3] ++ (List.replicate (30 : Int).toNat [1000000]).flatten) (by decide) (by decide)
  have l2 : row.length = 31 := h2.1
  refine bind_eq (v := row) ?_ ?_
  · rw [e1, pow_6]
    dsimp only [Res.bind_ok]
    rw [repR_ok (by decide) (by decide)]
    dsimp only [Res.bind_ok]
    rw [show catR [3] (List.replicate (30 : Int).toNat [(1000000 : Int)]).flatten = .ok ([3] ++ (List.replicate (30 : Int).toNat [(1000000 : Int)]).flatten) by unfold catR; rw [if_pos (szOk_yes (by decide))]]
    exact d2
  refine Tr.bind (prices15 (by omega) l2 (fun k k1 k2 => digs_at h2 (i := k) (s := 1000000) ?_) (digs_at h2 (i := 0) (s := 3) rfl)) ?_
  · obtain ⟨j, rfl⟩ : ∃ j, k = j + 1 := ⟨k - 1, by omega⟩
    show (List.replicate (30 : Int).toNat [(1000000 : Int)]).flatten[j]? = _
    have : (List.replicate (30 : Int).toNat [(1000000 : Int)]).flatten = List.replicate 30 1000000 := by decide +kernel
    rw [this, List.getElem?_replicate, if_pos (by omega)]
  rintro zs ⟨hl, hz⟩
  refine bind_eq (dict15 hN hl) ?_
  refine bind_eq (net_init h) ?_
  refine Tr.bind (priced_book h hl hz) ?_
  rintro _ ⟨R, rfl, hR⟩
  rw [rngR_nat (by omega)]
  dsimp only [Res.bind_ok]
  refine tr_all (fun g hg => ?_) (Tr.ok rfl)
  have hg := mem_upto.mp hg
  refine Tr.bind (told_heights h hl hz hg) ?_
  rintro _ ⟨D, rfl, hD⟩
  have hd := PD_priced hN hl hz
  refine bind_eq (v := false) ?_ ?_
  · obtain ⟨row', er, D', rfl, hD'⟩ := heights hN hd hg
    have : D' = D := hD'.uniq hN (fun x c => (hd.1 x c).1) hD
    subst this
    rw [er, Res.bind_ok, same_toi15 _ (by rw [List.length_map, hD.len]; omega)]
    show (if false = true then Res.ok true else _) = _
    rw [if_neg (by decide), at_some hD.len hg, hD.zero]
    rfl
  rw [if_neg (by decide)]
  refine tr_all (fun a ha => ?_) (Tr.ok rfl)
  exact one15 hN hl hz hR hg (mem_upto.mp ha) hD
theorem law_true (ns : List Int) (_ : ns.length ≤ 63) (_ : ∀ z ∈ ns, Builtin.Int.intBits z ≤ 1048576) : m_law [.frl (ns.map D.int)] = .ok (.bl true) := rf_use (n_law_fi ns) (law_ok ns).eq
end Kx
namespace Kx
open PySem PySem.Spec L2 Da
theorem all_mk {P : Program} {w : World} {K : PySem.W.Frag} {h : Heap} {mg : Str → Option Value} {fa : Addr} (X : K.In h) (G : h.Ns mainGlobals mg) (hfa : mg "law" = some (.ref fa))
    {C0 C1 : Addr}
    (xc0 : PySem.W.nsIn K mainGlobals "Book" = some (some (.ref C0))) (xp0 : PySem.W.plainGet K C0 Str.empty = true) (xh0 : PySem.W.hasDictIn K C0 = true) (xo0 : PySem.W.plainOver K C0 = true) (xs0 : PySem.W.findIn K (.ref C0) "__setattr__" = some (some (.builtin "object.__setattr__")))
    (xc1 : PySem.W.nsIn K mainGlobals "Net" = some (some (.ref C1))) (xp1 : PySem.W.plainGet K C1 Str.empty = true) (xh1 : PySem.W.hasDictIn K C1 = true) (xo1 : PySem.W.plainOver K C1 = true) (xs1 : PySem.W.findIn K (.ref C1) "__setattr__" = some (some (.builtin "object.__setattr__")))
    (xf_Book_net : PySem.W.findIn K (.ref C0) "net" = some none)
    (xf_Book_rows : PySem.W.findIn K (.ref C0) "rows" = some none)
    (xf_Net_lane_row : PySem.W.findIn K (.ref C1) "lane_row" = some none)
    (xf_Net_links : PySem.W.findIn K (.ref C1) "links" = some none)
    (xf_Net_near : PySem.W.findIn K (.ref C1) "near" = some none)
    (xf_Net_size : PySem.W.findIn K (.ref C1) "size" = some none)
    {f0 f1 f2 f3 f4 f5 f6 f7 f8 f9 f10 f11 f12 f13 f14 f15 f16 f17 f18 f19 f20 f21 f22 f23 f24 f25 f26 : Addr} {od0 an0 od1 an1 od2 an2 od3 an3 od4 an4 od5 an5 od6 an6 od7 an7 od8 an8 od9 an9 od10 an10 od11 an11 od12 an12 od13 an13 od14 an14 od15 an15 od16 an16 od17 an17 od18 an18 od19 an19 od20 an20 od21 an21 od22 an22 od23 an23 od24 an24 od25 an25 od26 an26 : Option Addr} {sl0 sl1 sl2 sl3 sl4 sl5 sl6 sl7 sl8 sl9 sl10 sl11 sl12 sl13 sl14 sl15 sl16 sl17 sl18 sl19 sl20 sl21 sl22 sl23 sl24 sl25 sl26 : Array (Option Value)} {oc0 kv0 dc0 pm0 cd0 ct0 oc1 kv1 dc1 pm1 cd1 ct1 oc2 kv2 dc2 pm2 cd2 ct2 oc3 kv3 dc3 pm3 cd3 ct3 oc4 kv4 dc4 pm4 cd4 ct4 oc5 kv5 dc5 pm5 cd5 ct5 oc6 kv6 dc6 pm6 cd6 ct6 oc7 kv7 dc7 pm7 cd7 ct7 oc8 kv8 dc8 pm8 cd8 ct8 oc9 kv9 dc9 pm9 cd9 ct9 oc10 kv10 dc10 pm10 cd10 ct10 oc11 kv11 dc11 pm11 cd11 ct11 oc12 kv12 dc12 pm12 cd12 ct12 oc13 kv13 dc13 pm13 cd13 ct13 oc14 kv14 dc14 pm14 cd14 ct14 oc15 kv15 dc15 pm15 cd15 ct15 oc16 kv16 dc16 pm16 cd16 ct16 oc17 kv17 dc17 pm17 cd17 ct17 oc18 kv18 dc18 pm18 cd18 ct18 oc19 kv19 dc19 pm19 cd19 ct19 oc20 kv20 dc20 pm20 cd20 ct20 oc21 kv21 dc21 pm21 cd21 ct21 oc22 kv22 dc22 pm22 cd22 ct22 oc23 kv23 dc23 pm23 cd23 ct23 oc24 kv24 dc24 pm24 cd24 ct24 oc25 kv25 dc25 pm25 cd25 ct25 oc26 kv26 dc26 pm26 cd26 ct26 : Value}
    (a0 : PySem.W.nsIn K mainGlobals "_law_net" = some (some (.ref f0))) (l0 : K.lookup f0 = some ⟨oc0, od0, .func (PySem.W.fnOf "_law_net" "_law_net" (defArgs s_law_net) (defBody s_law_net) (defScope s_law_net) .none kv0 dc0 pm0 an0 cd0 ct0), sl0⟩) (c0 : PySem.W.codeIn K cd0 "_law_net" = true) (k0 : PySem.W.keepIn K (.ref f0) = true)
    (a1 : PySem.W.nsIn K mainGlobals "_law_near" = some (some (.ref f1))) (l1 : K.lookup f1 = some ⟨oc1, od1, .func (PySem.W.fnOf "_law_near" "_law_near" (defArgs s_law_near) (defBody s_law_near) (defScope s_law_near) .none kv1 dc1 pm1 an1 cd1 ct1), sl1⟩) (c1 : PySem.W.codeIn K cd1 "_law_near" = true) (k1 : PySem.W.keepIn K (.ref f1) = true)
    (a2 : PySem.W.nsIn K mainGlobals "_law_lanes" = some (some (.ref f2))) (l2 : K.lookup f2 = some ⟨oc2, od2, .func (PySem.W.fnOf "_law_lanes" "_law_lanes" (defArgs s_law_lanes) (defBody s_law_lanes) (defScope s_law_lanes) .none kv2 dc2 pm2 an2 cd2 ct2), sl2⟩) (c2 : PySem.W.codeIn K cd2 "_law_lanes" = true) (k2 : PySem.W.keepIn K (.ref f2) = true)
    (a3 : PySem.W.nsIn K mainGlobals "_law_digits" = some (some (.ref f3))) (l3 : K.lookup f3 = some ⟨oc3, od3, .func (PySem.W.fnOf "_law_digits" "_law_digits" (defArgs s_law_digits) (defBody s_law_digits) (defScope s_law_digits) .none kv3 dc3 pm3 an3 cd3 ct3), sl3⟩) (c3 : PySem.W.codeIn K cd3 "_law_digits" = true) (k3 : PySem.W.keepIn K (.ref f3) = true)
    (a4 : PySem.W.nsIn K mainGlobals "is_number" = some (some (.ref f4))) (l4 : K.lookup f4 = some ⟨oc4, od4, .func (PySem.W.fnOf "is_number" "is_number" (defArgs s_is_number) (defBody s_is_number) (defScope s_is_number) .none kv4 dc4 pm4 an4 cd4 ct4), sl4⟩) (c4 : PySem.W.codeIn K cd4 "is_number" = true) (k4 : PySem.W.keepIn K (.ref f4) = true)
    (a5 : PySem.W.nsIn K mainGlobals "is_link" = some (some (.ref f5))) (l5 : K.lookup f5 = some ⟨oc5, od5, .func (PySem.W.fnOf "is_link" "is_link" (defArgs s_is_link) (defBody s_is_link) (defScope s_is_link) .none kv5 dc5 pm5 an5 cd5 ct5), sl5⟩) (c5 : PySem.W.codeIn K cd5 "is_link" = true) (k5 : PySem.W.keepIn K (.ref f5) = true)
    (a6 : PySem.W.nsIn K mainGlobals "checked_links" = some (some (.ref f6))) (l6 : K.lookup f6 = some ⟨oc6, od6, .func (PySem.W.fnOf "checked_links" "checked_links" (defArgs s_checked_links) (defBody s_checked_links) (defScope s_checked_links) .none kv6 dc6 pm6 an6 cd6 ct6), sl6⟩) (c6 : PySem.W.codeIn K cd6 "checked_links" = true) (k6 : PySem.W.keepIn K (.ref f6) = true)
    (a7 : PySem.W.nsIn K mainGlobals "near_nodes" = some (some (.ref f7))) (l7 : K.lookup f7 = some ⟨oc7, od7, .func (PySem.W.fnOf "near_nodes" "near_nodes" (defArgs s_near_nodes) (defBody s_near_nodes) (defScope s_near_nodes) .none kv7 dc7 pm7 an7 cd7 ct7), sl7⟩) (c7 : PySem.W.codeIn K cd7 "near_nodes" = true) (k7 : PySem.W.keepIn K (.ref f7) = true)
    (a8 : PySem.W.nsIn K mainGlobals "lanes_of" = some (some (.ref f8))) (l8 : K.lookup f8 = some ⟨oc8, od8, .func (PySem.W.fnOf "lanes_of" "lanes_of" (defArgs s_lanes_of) (defBody s_lanes_of) (defScope s_lanes_of) .none kv8 dc8 pm8 an8 cd8 ct8), sl8⟩) (c8 : PySem.W.codeIn K cd8 "lanes_of" = true) (k8 : PySem.W.keepIn K (.ref f8) = true)
    (a9 : PySem.W.nsIn K mainGlobals "reached" = some (some (.ref f9))) (l9 : K.lookup f9 = some ⟨oc9, od9, .func (PySem.W.fnOf "reached" "reached" (defArgs s_reached) (defBody s_reached) (defScope s_reached) .none kv9 dc9 pm9 an9 cd9 ct9), sl9⟩) (c9 : PySem.W.codeIn K cd9 "reached" = true) (k9 : PySem.W.keepIn K (.ref f9) = true)
    (a10 : PySem.W.nsIn K mainGlobals "frozen" = some (some (.ref f10))) (l10 : K.lookup f10 = some ⟨oc10, od10, .func (PySem.W.fnOf "frozen" "frozen" (defArgs s_frozen) (defBody s_frozen) (defScope s_frozen) .none kv10 dc10 pm10 an10 cd10 ct10), sl10⟩) (c10 : PySem.W.codeIn K cd10 "frozen" = true) (k10 : PySem.W.keepIn K (.ref f10) = true)
    (a11 : PySem.W.findIn K (.ref C1) "__init__" = some (some (.ref f11))) (ya11 : PySem.W.makesIn K C1 = true) (yb11 : PySem.W.isFn K (.ref f11) = true) (yc11 : PySem.W.keepIn K (.ref C1) = true)
    (l11 : K.lookup f11 = some ⟨oc11, od11, .func (PySem.W.fnOf "__init__" "Net.__init__" (defArgs s_Net_init) (defBody s_Net_init) (defScope s_Net_init) .none kv11 dc11 pm11 an11 cd11 ct11), sl11⟩) (c11 : PySem.W.codeIn K cd11 "Net.__init__" = true) (k11 : PySem.W.keepIn K (.ref f11) = true)
    (a12 : PySem.W.nsIn K mainGlobals "lane_prices" = some (some (.ref f12))) (l12 : K.lookup f12 = some ⟨oc12, od12, .func (PySem.W.fnOf "lane_prices" "lane_prices" (defArgs s_lane_prices) (defBody s_lane_prices) (defScope s_lane_prices) .none kv12 dc12 pm12 an12 cd12 ct12), sl12⟩) (c12 : PySem.W.codeIn K cd12 "lane_prices" = true) (k12 : PySem.W.keepIn K (.ref f12) = true)
    (a13 : PySem.W.nsIn K mainGlobals "route_lanes" = some (some (.ref f13))) (l13 : K.lookup f13 = some ⟨oc13, od13, .func (PySem.W.fnOf "route_lanes" "route_lanes" (defArgs s_route_lanes) (defBody s_route_lanes) (defScope s_route_lanes) .none kv13 dc13 pm13 an13 cd13 ct13), sl13⟩) (c13 : PySem.W.codeIn K cd13 "route_lanes" = true) (k13 : PySem.W.keepIn K (.ref f13) = true)
    (a14 : PySem.W.nsIn K mainGlobals "is_route" = some (some (.ref f14))) (l14 : K.lookup f14 = some ⟨oc14, od14, .func (PySem.W.fnOf "is_route" "is_route" (defArgs s_is_route) (defBody s_is_route) (defScope s_is_route) .none kv14 dc14 pm14 an14 cd14 ct14), sl14⟩) (c14 : PySem.W.codeIn K cd14 "is_route" = true) (k14 : PySem.W.keepIn K (.ref f14) = true)
    (a15 : PySem.W.nsIn K mainGlobals "checked_routes" = some (some (.ref f15))) (l15 : K.lookup f15 = some ⟨oc15, od15, .func (PySem.W.fnOf "checked_routes" "checked_routes" (defArgs s_checked_routes) (defBody s_checked_routes) (defScope s_checked_routes) .none kv15 dc15 pm15 an15 cd15 ct15), sl15⟩) (c15 : PySem.W.codeIn K cd15 "checked_routes" = true) (k15 : PySem.W.keepIn K (.ref f15) = true)
    (a16 : PySem.W.findIn K (.ref C0) "__init__" = some (some (.ref f16))) (ya16 : PySem.W.makesIn K C0 = true) (yb16 : PySem.W.isFn K (.ref f16) = true) (yc16 : PySem.W.keepIn K (.ref C0) = true)
    (l16 : K.lookup f16 = some ⟨oc16, od16, .func (PySem.W.fnOf "__init__" "Book.__init__" (defArgs s_Book_init) (defBody s_Book_init) (defScope s_Book_init) .none kv16 dc16 pm16 an16 cd16 ct16), sl16⟩) (c16 : PySem.W.codeIn K cd16 "Book.__init__" = true) (k16 : PySem.W.keepIn K (.ref f16) = true)
    (a17 : PySem.W.nsIn K mainGlobals "goal_heights" = some (some (.ref f17))) (l17 : K.lookup f17 = some ⟨oc17, od17, .func (PySem.W.fnOf "goal_heights" "goal_heights" (defArgs s_goal_heights) (defBody s_goal_heights) (defScope s_goal_heights) .none kv17 dc17 pm17 an17 cd17 ct17), sl17⟩) (c17 : PySem.W.codeIn K cd17 "goal_heights" = true) (k17 : PySem.W.keepIn K (.ref f17) = true)
    (a18 : PySem.W.nsIn K mainGlobals "descent" = some (some (.ref f18))) (l18 : K.lookup f18 = some ⟨oc18, od18, .func (PySem.W.fnOf "descent" "descent" (defArgs s_descent) (defBody s_descent) (defScope s_descent) .none kv18 dc18 pm18 an18 cd18 ct18), sl18⟩) (c18 : PySem.W.codeIn K cd18 "descent" = true) (k18 : PySem.W.keepIn K (.ref f18) = true)
    (a19 : PySem.W.nsIn K mainGlobals "priced_book" = some (some (.ref f19))) (l19 : K.lookup f19 = some ⟨oc19, od19, .func (PySem.W.fnOf "priced_book" "priced_book" (defArgs s_priced_book) (defBody s_priced_book) (defScope s_priced_book) .none kv19 dc19 pm19 an19 cd19 ct19), sl19⟩) (c19 : PySem.W.codeIn K cd19 "priced_book" = true) (k19 : PySem.W.keepIn K (.ref f19) = true)
    (a20 : PySem.W.nsIn K mainGlobals "_law_cell" = some (some (.ref f20))) (l20 : K.lookup f20 = some ⟨oc20, od20, .func (PySem.W.fnOf "_law_cell" "_law_cell" (defArgs s_law_cell) (defBody s_law_cell) (defScope s_law_cell) .none kv20 dc20 pm20 an20 cd20 ct20), sl20⟩) (c20 : PySem.W.codeIn K cd20 "_law_cell" = true) (k20 : PySem.W.keepIn K (.ref f20) = true)
    (a21 : PySem.W.nsIn K mainGlobals "heights" = some (some (.ref f21))) (l21 : K.lookup f21 = some ⟨oc21, od21, .func (PySem.W.fnOf "heights" "heights" (defArgs s_heights) (defBody s_heights) (defScope s_heights) .none kv21 dc21 pm21 an21 cd21 ct21), sl21⟩) (c21 : PySem.W.codeIn K cd21 "heights" = true) (k21 : PySem.W.keepIn K (.ref f21) = true)
    (a22 : PySem.W.findIn K (.ref C0) "__call__" = some (some (.ref f22))) (yb22 : PySem.W.isFn K (.ref f22) = true)
    (l22 : K.lookup f22 = some ⟨oc22, od22, .func (PySem.W.fnOf "__call__" "Book.__call__" (defArgs s_Book_call) (defBody s_Book_call) (defScope s_Book_call) .none kv22 dc22 pm22 an22 cd22 ct22), sl22⟩) (c22 : PySem.W.codeIn K cd22 "Book.__call__" = true) (k22 : PySem.W.keepIn K (.ref f22) = true)
    (a23 : PySem.W.nsIn K mainGlobals "_law_whole" = some (some (.ref f23))) (l23 : K.lookup f23 = some ⟨oc23, od23, .func (PySem.W.fnOf "_law_whole" "_law_whole" (defArgs s_law_whole) (defBody s_law_whole) (defScope s_law_whole) .none kv23 dc23 pm23 an23 cd23 ct23), sl23⟩) (c23 : PySem.W.codeIn K cd23 "_law_whole" = true) (k23 : PySem.W.keepIn K (.ref f23) = true)
    (a24 : PySem.W.nsIn K mainGlobals "_law_same" = some (some (.ref f24))) (l24 : K.lookup f24 = some ⟨oc24, od24, .func (PySem.W.fnOf "_law_same" "_law_same" (defArgs s_law_same) (defBody s_law_same) (defScope s_law_same) .none kv24 dc24 pm24 an24 cd24 ct24), sl24⟩) (c24 : PySem.W.codeIn K cd24 "_law_same" = true) (k24 : PySem.W.keepIn K (.ref f24) = true)
    (a25 : PySem.W.nsIn K mainGlobals "_law_heights" = some (some (.ref f25))) (l25 : K.lookup f25 = some ⟨oc25, od25, .func (PySem.W.fnOf "_law_heights" "_law_heights" (defArgs s_law_heights) (defBody s_law_heights) (defScope s_law_heights) .none kv25 dc25 pm25 an25 cd25 ct25), sl25⟩) (c25 : PySem.W.codeIn K cd25 "_law_heights" = true) (k25 : PySem.W.keepIn K (.ref f25) = true)
    (a26 : PySem.W.nsIn K mainGlobals "law" = some (some (.ref f26))) (l26 : K.lookup f26 = some ⟨oc26, od26, .func (PySem.W.fnOf "law" "law" (defArgs s_law) (defBody s_law) (defScope s_law) .none kv26 dc26 pm26 an26 cd26 ct26), sl26⟩) (c26 : PySem.W.codeIn K cd26 "law" = true) (k26 : PySem.W.keepIn K (.ref f26) = true)
    {E0 E1 E2 E3 E4 E5 : Addr} {Ef0 Ex0 Ef1 Ex1 Ef2 Ex2 Ef3 Ex3 Ef4 Ex4 Ef5 Ex5 : Addr}
    (ea0 : PySem.W.nsIn K mainGlobals "BadLink" = some (some (.ref E0)))
    {en0 eq0 : Str} {eb0 em0 : List Value} {esn0 : _} {esu0 : _} {eab0 : _} {eco0 : _} {edd0 : _} {ek00 : _} {ek10 : _} {ek20 : _} {ek30 : _} {ek50 : _}
    (el0 : K.lookup E0 = some (excClassObj en0 eq0 E0 Ex0 eb0 em0 true esn0 esu0 eab0 eco0 edd0 ek00 ek10 ek20 ek30 ek50 "ValueError.__new__")) (ev0 : PySem.HandSPX.refsVE em0 = true) (es0 : PySem.W.findIn K (.ref E0) "__setattr__" = some (some (.builtin "object.__setattr__"))) (et0 : PySem.W.subIn K (.ref E0) (.type "BaseException") = some true) (ey0 : PySem.W.typeIn K (.ref E0) = some (.type "type")) (ek0 : PySem.W.keepIn K (.ref E0) = true)
    (ei0 : PySem.W.findIn K (.ref E0) "__init__" = some (some (.ref Ef0))) (ej0 : PySem.W.typeIn K (.ref Ef0) = some (.type "function"))
    {eoc0 ekv0 edc0 epm0 ecd0 ect0 : Value} {eod0 ean0 : Option Addr} {esl0 : Array (Option Value)} (eu0 : K.lookup Ef0 = some ⟨eoc0, eod0, .func (PySem.W.fnOf "__init__" "BadLink.__init__" (defArgs s_BadLink_init) (defBody s_BadLink_init) (defScope s_BadLink_init) .none ekv0 edc0 epm0 ean0 ecd0 ect0), esl0⟩) (ew0 : PySem.W.codeIn K ecd0 "BadLink.__init__" = true) (ez0 : PySem.W.keepIn K (.ref Ef0) = true)
    (eg0_index : PySem.W.findIn K (.ref E0) "index" = some none)
    (ea1 : PySem.W.nsIn K mainGlobals "BadSize" = some (some (.ref E1)))
    {en1 eq1 : Str} {eb1 em1 : List Value} {esn1 : _} {esu1 : _} {eab1 : _} {eco1 : _} {edd1 : _} {ek01 : _} {ek11 : _} {ek21 : _} {ek31 : _} {ek51 : _}
    (el1 : K.lookup E1 = some (excClassObj en1 eq1 E1 Ex1 eb1 em1 true esn1 esu1 eab1 eco1 edd1 ek01 ek11 ek21 ek31 ek51 "ValueError.__new__")) (ev1 : PySem.HandSPX.refsVE em1 = true) (es1 : PySem.W.findIn K (.ref E1) "__setattr__" = some (some (.builtin "object.__setattr__"))) (et1 : PySem.W.subIn K (.ref E1) (.type "BaseException") = some true) (ey1 : PySem.W.typeIn K (.ref E1) = some (.type "type")) (ek1 : PySem.W.keepIn K (.ref E1) = true)
    (ei1 : PySem.W.findIn K (.ref E1) "__init__" = some (some (.ref Ef1))) (ej1 : PySem.W.typeIn K (.ref Ef1) = some (.type "function"))
    {eoc1 ekv1 edc1 epm1 ecd1 ect1 : Value} {eod1 ean1 : Option Addr} {esl1 : Array (Option Value)} (eu1 : K.lookup Ef1 = some ⟨eoc1, eod1, .func (PySem.W.fnOf "__init__" "BadSize.__init__" (defArgs s_BadSize_init) (defBody s_BadSize_init) (defScope s_BadSize_init) .none ekv1 edc1 epm1 ean1 ecd1 ect1), esl1⟩) (ew1 : PySem.W.codeIn K ecd1 "BadSize.__init__" = true) (ez1 : PySem.W.keepIn K (.ref Ef1) = true)
    (eg1_size : PySem.W.findIn K (.ref E1) "size" = some none)
    (ea2 : PySem.W.nsIn K mainGlobals "NotConnected" = some (some (.ref E2)))
    {en2 eq2 : Str} {eb2 em2 : List Value} {esn2 : _} {esu2 : _} {eab2 : _} {eco2 : _} {edd2 : _} {ek02 : _} {ek12 : _} {ek22 : _} {ek32 : _} {ek52 : _}
    (el2 : K.lookup E2 = some (excClassObj en2 eq2 E2 Ex2 eb2 em2 true esn2 esu2 eab2 eco2 edd2 ek02 ek12 ek22 ek32 ek52 "ValueError.__new__")) (ev2 : PySem.HandSPX.refsVE em2 = true) (es2 : PySem.W.findIn K (.ref E2) "__setattr__" = some (some (.builtin "object.__setattr__"))) (et2 : PySem.W.subIn K (.ref E2) (.type "BaseException") = some true) (ey2 : PySem.W.typeIn K (.ref E2) = some (.type "type")) (ek2 : PySem.W.keepIn K (.ref E2) = true)
    (ei2 : PySem.W.findIn K (.ref E2) "__init__" = some (some (.ref Ef2))) (ej2 : PySem.W.typeIn K (.ref Ef2) = some (.type "function"))
    {eoc2 ekv2 edc2 epm2 ecd2 ect2 : Value} {eod2 ean2 : Option Addr} {esl2 : Array (Option Value)} (eu2 : K.lookup Ef2 = some ⟨eoc2, eod2, .func (PySem.W.fnOf "__init__" "NotConnected.__init__" (defArgs s_NotConnected_init) (defBody s_NotConnected_init) (defScope s_NotConnected_init) .none ekv2 edc2 epm2 ean2 ecd2 ect2), esl2⟩) (ew2 : PySem.W.codeIn K ecd2 "NotConnected.__init__" = true) (ez2 : PySem.W.keepIn K (.ref Ef2) = true)
    (eg2_node : PySem.W.findIn K (.ref E2) "node" = some none)
    (ea3 : PySem.W.nsIn K mainGlobals "BadCount" = some (some (.ref E3)))
    {en3 eq3 : Str} {eb3 em3 : List Value} {esn3 : _} {esu3 : _} {eab3 : _} {eco3 : _} {edd3 : _} {ek03 : _} {ek13 : _} {ek23 : _} {ek33 : _} {ek53 : _}
    (el3 : K.lookup E3 = some (excClassObj en3 eq3 E3 Ex3 eb3 em3 true esn3 esu3 eab3 eco3 edd3 ek03 ek13 ek23 ek33 ek53 "ValueError.__new__")) (ev3 : PySem.HandSPX.refsVE em3 = true) (es3 : PySem.W.findIn K (.ref E3) "__setattr__" = some (some (.builtin "object.__setattr__"))) (et3 : PySem.W.subIn K (.ref E3) (.type "BaseException") = some true) (ey3 : PySem.W.typeIn K (.ref E3) = some (.type "type")) (ek3 : PySem.W.keepIn K (.ref E3) = true)
    (ei3 : PySem.W.findIn K (.ref E3) "__init__" = some (some (.ref Ef3))) (ej3 : PySem.W.typeIn K (.ref Ef3) = some (.type "function"))
    {eoc3 ekv3 edc3 epm3 ecd3 ect3 : Value} {eod3 ean3 : Option Addr} {esl3 : Array (Option Value)} (eu3 : K.lookup Ef3 = some ⟨eoc3, eod3, .func (PySem.W.fnOf "__init__" "BadCount.__init__" (defArgs s_BadCount_init) (defBody s_BadCount_init) (defScope s_BadCount_init) .none ekv3 edc3 epm3 ean3 ecd3 ect3), esl3⟩) (ew3 : PySem.W.codeIn K ecd3 "BadCount.__init__" = true) (ez3 : PySem.W.keepIn K (.ref Ef3) = true)
    (eg3_count : PySem.W.findIn K (.ref E3) "count" = some none)
    (ea4 : PySem.W.nsIn K mainGlobals "BadPrice" = some (some (.ref E4)))
    {en4 eq4 : Str} {eb4 em4 : List Value} {esn4 : _} {esu4 : _} {eab4 : _} {eco4 : _} {edd4 : _} {ek04 : _} {ek14 : _} {ek24 : _} {ek34 : _} {ek54 : _}
    (el4 : K.lookup E4 = some (excClassObj en4 eq4 E4 Ex4 eb4 em4 true esn4 esu4 eab4 eco4 edd4 ek04 ek14 ek24 ek34 ek54 "ValueError.__new__")) (ev4 : PySem.HandSPX.refsVE em4 = true) (es4 : PySem.W.findIn K (.ref E4) "__setattr__" = some (some (.builtin "object.__setattr__"))) (et4 : PySem.W.subIn K (.ref E4) (.type "BaseException") = some true) (ey4 : PySem.W.typeIn K (.ref E4) = some (.type "type")) (ek4 : PySem.W.keepIn K (.ref E4) = true)
    (ei4 : PySem.W.findIn K (.ref E4) "__init__" = some (some (.ref Ef4))) (ej4 : PySem.W.typeIn K (.ref Ef4) = some (.type "function"))
    {eoc4 ekv4 edc4 epm4 ecd4 ect4 : Value} {eod4 ean4 : Option Addr} {esl4 : Array (Option Value)} (eu4 : K.lookup Ef4 = some ⟨eoc4, eod4, .func (PySem.W.fnOf "__init__" "BadPrice.__init__" (defArgs s_BadPrice_init) (defBody s_BadPrice_init) (defScope s_BadPrice_init) .none ekv4 edc4 epm4 ean4 ecd4 ect4), esl4⟩) (ew4 : PySem.W.codeIn K ecd4 "BadPrice.__init__" = true) (ez4 : PySem.W.keepIn K (.ref Ef4) = true)
    (eg4_index : PySem.W.findIn K (.ref E4) "index" = some none)
    (ea5 : PySem.W.nsIn K mainGlobals "BadRoute" = some (some (.ref E5)))
    {en5 eq5 : Str} {eb5 em5 : List Value} {esn5 : _} {esu5 : _} {eab5 : _} {eco5 : _} {edd5 : _} {ek05 : _} {ek15 : _} {ek25 : _} {ek35 : _} {ek55 : _}
    (el5 : K.lookup E5 = some (excClassObj en5 eq5 E5 Ex5 eb5 em5 true esn5 esu5 eab5 eco5 edd5 ek05 ek15 ek25 ek35 ek55 "ValueError.__new__")) (ev5 : PySem.HandSPX.refsVE em5 = true) (es5 : PySem.W.findIn K (.ref E5) "__setattr__" = some (some (.builtin "object.__setattr__"))) (et5 : PySem.W.subIn K (.ref E5) (.type "BaseException") = some true) (ey5 : PySem.W.typeIn K (.ref E5) = some (.type "type")) (ek5 : PySem.W.keepIn K (.ref E5) = true)
    (ei5 : PySem.W.findIn K (.ref E5) "__init__" = some (some (.ref Ef5))) (ej5 : PySem.W.typeIn K (.ref Ef5) = some (.type "function"))
    {eoc5 ekv5 edc5 epm5 ecd5 ect5 : Value} {eod5 ean5 : Option Addr} {esl5 : Array (Option Value)} (eu5 : K.lookup Ef5 = some ⟨eoc5, eod5, .func (PySem.W.fnOf "__init__" "BadRoute.__init__" (defArgs s_BadRoute_init) (defBody s_BadRoute_init) (defScope s_BadRoute_init) .none ekv5 edc5 epm5 ean5 ecd5 ect5), esl5⟩) (ew5 : PySem.W.codeIn K ecd5 "BadRoute.__init__" = true) (ez5 : PySem.W.keepIn K (.ref Ef5) = true)
    (eg5_sender : PySem.W.findIn K (.ref E5) "sender" = some none)
    (eg5_goal : PySem.W.findIn K (.ref E5) "goal" = some none)
    {tk_MOST_NODES : Tok} (gc_MOST_NODES : PySem.W.nsIn K mainGlobals "MOST_NODES" = some (some (.int 24 tk_MOST_NODES)))
    (z0 : PySem.W.nsIn K mainGlobals "all" = some none)
    (z1 : PySem.W.nsIn K mainGlobals "bool" = some none)
    (z2 : PySem.W.nsIn K mainGlobals "enumerate" = some none)
    (z3 : PySem.W.nsIn K mainGlobals "int" = some none)
    (z4 : PySem.W.nsIn K mainGlobals "isinstance" = some none)
    (z5 : PySem.W.nsIn K mainGlobals "len" = some none)
    (z6 : PySem.W.nsIn K mainGlobals "list" = some none)
    (z7 : PySem.W.nsIn K mainGlobals "max" = some none)
    (z8 : PySem.W.nsIn K mainGlobals "min" = some none)
    (z9 : PySem.W.nsIn K mainGlobals "range" = some none)
    (z10 : PySem.W.nsIn K mainGlobals "set" = some none)
    (z11 : PySem.W.nsIn K mainGlobals "sorted" = some none)
    (z12 : PySem.W.nsIn K mainGlobals "str" = some none)
    (z13 : PySem.W.nsIn K mainGlobals "sum" = some none)
    (z14 : PySem.W.nsIn K mainGlobals "tuple" = some none)
    (z15 : PySem.W.nsIn K mainGlobals "zip" = some none)
    (gg_heappop : PySem.W.nsIn K mainGlobals "heappop" = some (some (.builtin "_heapq.heappop")))
    (gg_heappush : PySem.W.nsIn K mainGlobals "heappush" = some (some (.builtin "_heapq.heappush")))
    : ∃ fd : FuncData, (∀ (s : Shared) (u : Value), BindsTo s fd ⟨[u], []⟩ [("script", u)]) ∧ ∀ base : Heap, K.In base → base.Ns mainGlobals mg → FnOk P w K mg base (L2.CX P w) 12 fa fd ["script"] (spLaw K) := by
  have e := hfa.symm.trans (PySem.W.mg_of X G a26)
  cases e
  have T : Txt K mg :=
    { d_law_net := defAt_mk X G a0 l0 c0 k0 fun _ _ _ _ _ _ us hl => match us, hl with | [_, _], _ => rfl
      d_law_near := defAt_mk X G a1 l1 c1 k1 fun _ _ _ _ _ _ us hl => match us, hl with | [_, _], _ => rfl
      d_law_lanes := defAt_mk X G a2 l2 c2 k2 fun _ _ _ _ _ _ us hl => match us, hl with | [_], _ => rfl
      d_law_digits := defAt_mk X G a3 l3 c3 k3 fun _ _ _ _ _ _ us hl => match us, hl with | [_, _], _ => rfl
      d_is_number := defAt_mk X G a4 l4 c4 k4 fun _ _ _ _ _ _ us hl => match us, hl with | [_], _ => rfl
      d_is_link := defAt_mk X G a5 l5 c5 k5 fun _ _ _ _ _ _ us hl => match us, hl with | [_, _], _ => rfl
      d_checked_links := defAt_mk X G a6 l6 c6 k6 fun _ _ _ _ _ _ us hl => match us, hl with | [_, _], _ => rfl
      d_near_nodes := defAt_mk X G a7 l7 c7 k7 fun _ _ _ _ _ _ us hl => match us, hl with | [_, _], _ => rfl
      d_lanes_of := defAt_mk X G a8 l8 c8 k8 fun _ _ _ _ _ _ us hl => match us, hl with | [_], _ => rfl
      d_reached := defAt_mk X G a9 l9 c9 k9 fun _ _ _ _ _ _ us hl => match us, hl with | [_, _, _], _ => rfl
      d_frozen := defAt_mk X G a10 l10 c10 k10 fun _ _ _ _ _ _ us hl => match us, hl with | [_], _ => rfl
      d_Net_init := initAt_mk X G xc1 ya11 a11 yb11 yc11 l11 c11 k11 fun _ _ _ _ _ _ us hl => match us, hl with | [_, _, _], _ => rfl
      d_lane_prices := defAt_mk X G a12 l12 c12 k12 fun _ _ _ _ _ _ us hl => match us, hl with | [_, _], _ => rfl
      d_route_lanes := defAt_mk X G a13 l13 c13 k13 fun _ _ _ _ _ _ us hl => match us, hl with | [_], _ => rfl
      d_is_route := defAt_mk X G a14 l14 c14 k14 fun _ _ _ _ _ _ us hl => match us, hl with | [_, _, _, _], _ => rfl
      d_checked_routes := defAt_mk X G a15 l15 c15 k15 fun _ _ _ _ _ _ us hl => match us, hl with | [_, _], _ => rfl
      d_Book_init := initAt_mk X G xc0 ya16 a16 yb16 yc16 l16 c16 k16 fun _ _ _ _ _ _ us hl => match us, hl with | [_, _, _], _ => rfl
      d_goal_heights := defAt_mk X G a17 l17 c17 k17 fun _ _ _ _ _ _ us hl => match us, hl with | [_, _, _], _ => rfl
      d_descent := defAt_mk X G a18 l18 c18 k18 fun _ _ _ _ _ _ us hl => match us, hl with | [_, _, _, _], _ => rfl
      d_priced_book := defAt_mk X G a19 l19 c19 k19 fun _ _ _ _ _ _ us hl => match us, hl with | [_, _], _ => rfl
      d_law_cell := defAt_mk X G a20 l20 c20 k20 fun _ _ _ _ _ _ us hl => match us, hl with | [_, _], _ => rfl
      d_heights := defAt_mk X G a21 l21 c21 k21 fun _ _ _ _ _ _ us hl => match us, hl with | [_, _, _], _ => rfl
      d_Book_call := methAt_mk X G xc0 (cls_mk xp0 xh0 xo0 xs0) a22 yb22 l22 c22 k22 fun _ _ _ _ _ _ us hl => match us, hl with | [_, _, _], _ => rfl
      d_law_whole := defAt_mk X G a23 l23 c23 k23 fun _ _ _ _ _ _ us hl => match us, hl with | [_], _ => rfl
      d_law_same := defAt_mk X G a24 l24 c24 k24 fun _ _ _ _ _ _ us hl => match us, hl with | [_, _], _ => rfl
      d_law_heights := defAt_mk X G a25 l25 c25 k25 fun _ _ _ _ _ _ us hl => match us, hl with | [_, _, _], _ => rfl
      z_all := PySem.W.mg_none_of X G z0
      z_bool := PySem.W.mg_none_of X G z1
      z_enumerate := PySem.W.mg_none_of X G z2
      z_int := PySem.W.mg_none_of X G z3
      z_isinstance := PySem.W.mg_none_of X G z4
      z_len := PySem.W.mg_none_of X G z5
      z_list := PySem.W.mg_none_of X G z6
      z_max := PySem.W.mg_none_of X G z7
      z_min := PySem.W.mg_none_of X G z8
      z_range := PySem.W.mg_none_of X G z9
      z_set := PySem.W.mg_none_of X G z10
      z_sorted := PySem.W.mg_none_of X G z11
      z_str := PySem.W.mg_none_of X G z12
      z_sum := PySem.W.mg_none_of X G z13
      z_tuple := PySem.W.mg_none_of X G z14
      z_zip := PySem.W.mg_none_of X G z15
      f_Book_net := fldAt_mk X G xc0 (cls_mk xp0 xh0 xo0 xs0) xf_Book_net
      f_Book_rows := fldAt_mk X G xc0 (cls_mk xp0 xh0 xo0 xs0) xf_Book_rows
      f_Net_lane_row := fldAt_mk X G xc1 (cls_mk xp1 xh1 xo1 xs1) xf_Net_lane_row
      f_Net_links := fldAt_mk X G xc1 (cls_mk xp1 xh1 xo1 xs1) xf_Net_links
      f_Net_near := fldAt_mk X G xc1 (cls_mk xp1 xh1 xo1 xs1) xf_Net_near
      f_Net_size := fldAt_mk X G xc1 (cls_mk xp1 xh1 xo1 xs1) xf_Net_size
      g_heappop := PySem.W.mg_of X G gg_heappop
      g_heappush := PySem.W.mg_of X G gg_heappush
      c_MOST_NODES := globI_mk (PySem.W.mg_of X G gc_MOST_NODES)
      e_BadLink := errAt_mk X G ea0 el0 ev0 es0 et0 ey0 ek0 ei0 ej0 eu0 ew0 ez0 (fun _ _ _ _ _ _ us hl => match us, hl with | [_, _], _ => rfl) (errF eg0_index (fun g hg => nomatch hg))
      e_BadSize := errAt_mk X G ea1 el1 ev1 es1 et1 ey1 ek1 ei1 ej1 eu1 ew1 ez1 (fun _ _ _ _ _ _ us hl => match us, hl with | [_, _], _ => rfl) (errF eg1_size (fun g hg => nomatch hg))
      e_NotConnected := errAt_mk X G ea2 el2 ev2 es2 et2 ey2 ek2 ei2 ej2 eu2 ew2 ez2 (fun _ _ _ _ _ _ us hl => match us, hl with | [_, _], _ => rfl) (errF eg2_node (fun g hg => nomatch hg))
      e_BadCount := errAt_mk X G ea3 el3 ev3 es3 et3 ey3 ek3 ei3 ej3 eu3 ew3 ez3 (fun _ _ _ _ _ _ us hl => match us, hl with | [_, _], _ => rfl) (errF eg3_count (fun g hg => nomatch hg))
      e_BadPrice := errAt_mk X G ea4 el4 ev4 es4 et4 ey4 ek4 ei4 ej4 eu4 ew4 ez4 (fun _ _ _ _ _ _ us hl => match us, hl with | [_, _], _ => rfl) (errF eg4_index (fun g hg => nomatch hg))
      e_BadRoute := errAt_mk X G ea5 el5 ev5 es5 et5 ey5 ek5 ei5 ej5 eu5 ew5 ez5 (fun _ _ _ _ _ _ us hl => match us, hl with | [_, _, _], _ => rfl) (errF eg5_sender (errF eg5_goal (fun g hg => nomatch hg))) }
  exact ⟨_, fun s u => .of_eq rfl, fun base _ _ => law_imp (okf_law T (fun_mk (st := s_law) l26 c26 k26)) law_true⟩
end Kx
end
open PySem PySem.W PyProof.Rows
set_option maxRecDepth 100000 in
set_option maxHeartbeats 0 in
theorem PySem.Challenge.cw_nobadday_k15_heights_holds : PySem.Challenge.rw_nobadday_k15_heights.Holds := by
  w_on; o_law; k_head; (case hw => w_witness2)
  k_fill
  refine Da.walk_end (l := PySem.Challenge.rw_nobadday_k15_heights) (k := 12) rfl rfl ⟨rfl, by decide, by decide⟩ (fun w h Y => PySem.W.kIn_of Y) ?F
  case F =>
    intro w mg fa h KX G hmg
    refine' Kx.all_mk KX G hmg ?xc0 ?xp0 ?xh0 ?xo0 ?xs0 ?xc1 ?xp1 ?xh1 ?xo1 ?xs1 ?xf_Book_net ?xf_Book_rows ?xf_Net_lane_row ?xf_Net_links ?xf_Net_near ?xf_Net_size ?a0 ?l0 ?c0 ?k0 ?a1 ?l1 ?c1 ?k1 ?a2 ?l2 ?c2 ?k2 ?a3 ?l3 ?c3 ?k3 ?a4 ?l4 ?c4 ?k4 ?a5 ?l5 ?c5 ?k5 ?a6 ?l6 ?c6 ?k6 ?a7 ?l7 ?c7 ?k7 ?a8 ?l8 ?c8 ?k8 ?a9 ?l9 ?c9 ?k9 ?a10 ?l10 ?c10 ?k10 ?a11 ?ya11 ?yb11 ?yc11 ?l11 ?c11 ?k11 ?a12 ?l12 ?c12 ?k12 ?a13 ?l13 ?c13 ?k13 ?a14 ?l14 ?c14 ?k14 ?a15 ?l15 ?c15 ?k15 ?a16 ?ya16 ?yb16 ?yc16 ?l16 ?c16 ?k16 ?a17 ?l17 ?c17 ?k17 ?a18 ?l18 ?c18 ?k18 ?a19 ?l19 ?c19 ?k19 ?a20 ?l20 ?c20 ?k20 ?a21 ?l21 ?c21 ?k21 ?a22 ?yb22 ?l22 ?c22 ?k22 ?a23 ?l23 ?c23 ?k23 ?a24 ?l24 ?c24 ?k24 ?a25 ?l25 ?c25 ?k25 ?a26 ?l26 ?c26 ?k26 ?ea0 ?el0 ?ev0 ?es0 ?et0 ?ey0 ?ek0 ?ei0 ?ej0 ?eu0 ?ew0 ?ez0 ?eg0_index ?ea1 ?el1 ?ev1 ?es1 ?et1 ?ey1 ?ek1 ?ei1 ?ej1 ?eu1 ?ew1 ?ez1 ?eg1_size ?ea2 ?el2 ?ev2 ?es2 ?et2 ?ey2 ?ek2 ?ei2 ?ej2 ?eu2 ?ew2 ?ez2 ?eg2_node ?ea3 ?el3 ?ev3 ?es3 ?et3 ?ey3 ?ek3 ?ei3 ?ej3 ?eu3 ?ew3 ?ez3 ?eg3_count ?ea4 ?el4 ?ev4 ?es4 ?et4 ?ey4 ?ek4 ?ei4 ?ej4 ?eu4 ?ew4 ?ez4 ?eg4_index ?ea5 ?el5 ?ev5 ?es5 ?et5 ?ey5 ?ek5 ?ei5 ?ej5 ?eu5 ?ew5 ?ez5 ?eg5_sender ?eg5_goal ?gc_MOST_NODES ?z0 ?z1 ?z2 ?z3 ?z4 ?z5 ?z6 ?z7 ?z8 ?z9 ?z10 ?z11 ?z12 ?z13 ?z14 ?z15 ?gg_heappop ?gg_heappush
    (case xc0 => k_is); (case xp0 => k_is); (case xh0 => k_is); (case xo0 => k_is); (case xs0 => k_is); (case xc1 => k_is); (case xp1 => k_is); (case xh1 => k_is)
    (case xo1 => k_is); (case xs1 => k_is); (case xf_Book_net => k_is); (case xf_Book_rows => k_is); (case xf_Net_lane_row => k_is); (case xf_Net_links => k_is); (case xf_Net_near => k_is); (case xf_Net_size => k_is)
    (case a0 => k_is); (case l0 => k_is); (case c0 => k_is); (case k0 => k_is); (case a1 => k_is); (case l1 => k_is); (case c1 => k_is); (case k1 => k_is)
    (case a2 => k_is); (case l2 => k_is); (case c2 => k_is); (case k2 => k_is); (case a3 => k_is); (case l3 => k_is); (case c3 => k_is); (case k3 => k_is)
    (case a4 => k_is); (case l4 => k_is); (case c4 => k_is); (case k4 => k_is); (case a5 => k_is); (case l5 => k_is); (case c5 => k_is); (case k5 => k_is)
    (case a6 => k_is); (case l6 => k_is); (case c6 => k_is); (case k6 => k_is); (case a7 => k_is); (case l7 => k_is); (case c7 => k_is); (case k7 => k_is)
    (case a8 => k_is); (case l8 => k_is); (case c8 => k_is); (case k8 => k_is); (case a9 => k_is); (case l9 => k_is); (case c9 => k_is); (case k9 => k_is)
    (case a10 => k_is); (case l10 => k_is); (case c10 => k_is); (case k10 => k_is); (case a11 => k_is); (case ya11 => k_is); (case yb11 => k_is); (case yc11 => k_is)
    (case l11 => k_is); (case c11 => k_is); (case k11 => k_is); (case a12 => k_is); (case l12 => k_is); (case c12 => k_is); (case k12 => k_is); (case a13 => k_is)
    (case l13 => k_is); (case c13 => k_is); (case k13 => k_is); (case a14 => k_is); (case l14 => k_is); (case c14 => k_is); (case k14 => k_is); (case a15 => k_is)
    (case l15 => k_is); (case c15 => k_is); (case k15 => k_is); (case a16 => k_is); (case ya16 => k_is); (case yb16 => k_is); (case yc16 => k_is); (case l16 => k_is)
    (case c16 => k_is); (case k16 => k_is); (case a17 => k_is); (case l17 => k_is); (case c17 => k_is); (case k17 => k_is); (case a18 => k_is); (case l18 => k_is)
    (case c18 => k_is); (case k18 => k_is); (case a19 => k_is); (case l19 => k_is); (case c19 => k_is); (case k19 => k_is); (case a20 => k_is); (case l20 => k_is)
    (case c20 => k_is); (case k20 => k_is); (case a21 => k_is); (case l21 => k_is); (case c21 => k_is); (case k21 => k_is); (case a22 => k_is); (case yb22 => k_is)
    (case l22 => k_is); (case c22 => k_is); (case k22 => k_is); (case a23 => k_is); (case l23 => k_is); (case c23 => k_is); (case k23 => k_is); (case a24 => k_is)
    (case l24 => k_is); (case c24 => k_is); (case k24 => k_is); (case a25 => k_is); (case l25 => k_is); (case c25 => k_is); (case k25 => k_is); (case a26 => k_is)
    (case l26 => k_is); (case c26 => k_is); (case k26 => k_is); (case ea0 => k_is); (case el0 => k_is); (case ev0 => kernel_rfl); (case es0 => k_is); (case et0 => k_is)
    (case ey0 => k_is); (case ek0 => k_is); (case ei0 => k_is); (case ej0 => k_is); (case eu0 => k_is); (case ew0 => k_is); (case ez0 => k_is); (case eg0_index => k_is)
    (case ea1 => k_is); (case el1 => k_is); (case ev1 => kernel_rfl); (case es1 => k_is); (case et1 => k_is); (case ey1 => k_is); (case ek1 => k_is); (case ei1 => k_is)
    (case ej1 => k_is); (case eu1 => k_is); (case ew1 => k_is); (case ez1 => k_is); (case eg1_size => k_is); (case ea2 => k_is); (case el2 => k_is); (case ev2 => kernel_rfl)
    (case es2 => k_is); (case et2 => k_is); (case ey2 => k_is); (case ek2 => k_is); (case ei2 => k_is); (case ej2 => k_is); (case eu2 => k_is); (case ew2 => k_is)
    (case ez2 => k_is); (case eg2_node => k_is); (case ea3 => k_is); (case el3 => k_is); (case ev3 => kernel_rfl); (case es3 => k_is); (case et3 => k_is); (case ey3 => k_is)
    (case ek3 => k_is); (case ei3 => k_is); (case ej3 => k_is); (case eu3 => k_is); (case ew3 => k_is); (case ez3 => k_is); (case eg3_count => k_is); (case ea4 => k_is)
    (case el4 => k_is); (case ev4 => kernel_rfl); (case es4 => k_is); (case et4 => k_is); (case ey4 => k_is); (case ek4 => k_is); (case ei4 => k_is); (case ej4 => k_is)
    (case eu4 => k_is); (case ew4 => k_is); (case ez4 => k_is); (case eg4_index => k_is); (case ea5 => k_is); (case el5 => k_is); (case ev5 => kernel_rfl); (case es5 => k_is)
    (case et5 => k_is); (case ey5 => k_is); (case ek5 => k_is); (case ei5 => k_is); (case ej5 => k_is); (case eu5 => k_is); (case ew5 => k_is); (case ez5 => k_is)
    (case eg5_sender => k_is); (case eg5_goal => k_is); (case gc_MOST_NODES => k_is); (case z0 => k_is); (case z1 => k_is); (case z2 => k_is); (case z3 => k_is); (case z4 => k_is)
    (case z5 => k_is); (case z6 => k_is); (case z7 => k_is); (case z8 => k_is); (case z9 => k_is); (case z10 => k_is); (case z11 => k_is); (case z12 => k_is)
    (case z13 => k_is); (case z14 => k_is); (case z15 => k_is); (case gg_heappop => k_is); (case gg_heappush => k_is)
#print axioms PySem.Challenge.cw_nobadday_k15_heights_holds
