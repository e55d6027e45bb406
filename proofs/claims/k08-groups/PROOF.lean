import PyProof.Rows.All
import Wide.All
import OpenK.AllK
import Wide.FinOn
import HandS.ForMost
import HandS.EndBits
import HandS.ForExc
import HandS.Wide
import HandS.Conv
import HandS.Style
import HandS.IsInst
import HandS.TupAny
import HandS.TupMul
import HandS.Deep
import HandS.Gcd
import HandS.Flow
import HandS.RevRange
import HandS.Rev
import HandS.Zip
import KE.SortData
import KE.GoesMore
import KE.OsSorts
import HandS.DictComp
import KE.KIndexOf
import HandS.Property
import KE.DataMinMax
import HandS.ExcInit
import HandS.ExcField
import HandS.ExcIs
import HandS.ExcOwn
import KE.KExcIs
import HandS.TupSets
import HandS.SetBool
import HandS.SetFor
import PyProof.Rows.SetFrom
import KE.KTupSum
import PyProof.DictUpdate
import HandS.HotCalls
import KE.KDictDisplayH
import PySem.Challenge.RW_nobadday_k08_groups
set_option Elab.async false
set_option linter.all false
set_option maxRecDepth 100000
set_option maxHeartbeats 4000000
noncomputable section
namespace Da
open PySem PySem.Spec L2
/-- a check that nobody reckons out -/
@[irreducible] def stuck (p : Prop) : Bool := @decide p (Classical.propDecidable p)
theorem stuck_iff {p : Prop} : stuck p = true ↔ p := by unfold stuck; exact @decide_eq_true_iff p (Classical.propDecidable p)
/-- data, without the heap -/
inductive D where
  | non | bl (b : Bool) | int (i : Int) | str (s : Str)
  | lst (xs : List D) | tup (xs : List D) | frl (xs : List D)
  | dic (ks : List Key) (vs : List D) | dit (ks : List (List Key)) (vs : List D)
  | obj (c : Str) (ns : List Str) (vs : List D)
  /-- an error that an except suite holds -/
  | exc (c : Str) (ns : List Str) (vs : List D)
/-- what a run gives: a value, an own exception with its arguments, or nothing that is known -/
inductive Res (α : Type) where
  | ok (a : α) | ex (c : Str) (fs : List (Str × D)) | er
namespace Res
def bind {α β : Type} (r : Res α) (f : α → Res β) : Res β := match r with
  | .ok a => f a
  | .ex c fs => .ex c fs
  | .er => .er
@[simp] theorem bind_ok {α β : Type} (a : α) (f : α → Res β) : (Res.ok a).bind f = f a := rfl
@[simp] theorem bind_ex {α β : Type} (c : Str) (as : List (Str × D)) (f : α → Res β) : (Res.ex c as : Res α).bind f = .ex c as := rfl
@[simp] theorem bind_er {α β : Type} (f : α → Res β) : (Res.er : Res α).bind f = .er := rfl
end Res
/-- the value v stands for the data d, read in the view S -/
inductive Rep (K : PySem.W.Frag) (mg : Str → Option Value) (S : Hp) : V → D → Prop where
  | non : Rep K mg S .non .non
  | bl (b : Bool) : Rep K mg S (.bl b) (.bl b)
  | int (i : Int) : Rep K mg S (.int i) (.int i)
  | str (x : Str) : Rep K mg S (.str x) (.str x)
  | lst {a : Addr} {vs : List V} {ds : List D} (h : S a = some (.lst vs)) (hl : vs.length = ds.length) (hi : ∀ (i : Nat) (v : V) (d : D), vs[i]? = some v → ds[i]? = some d → Rep K mg S v d) : Rep K mg S (.ref a) (.lst ds)
  | tup {a : Addr} {vs : List V} {ds : List D} (h : S a = some (.tup vs)) (hl : vs.length = ds.length) (hi : ∀ (i : Nat) (v : V) (d : D), vs[i]? = some v → ds[i]? = some d → Rep K mg S v d) : Rep K mg S (.ref a) (.tup ds)
  | frl {a : Addr} {vs : List V} {ds : List D} (h : SqL K S a vs) (hl : vs.length = ds.length) (hi : ∀ (i : Nat) (v : V) (d : D), vs[i]? = some v → ds[i]? = some d → Rep K mg S v d) : Rep K mg S (.ref a) (.frl ds)
  | dic {a : Addr} {kvs : List (Key × V)} {ds : List D} (h : Rd S a (.dK kvs)) (hl : kvs.length = ds.length) (hi : ∀ (i : Nat) (p : Key × V) (d : D), kvs[i]? = some p → ds[i]? = some d → Rep K mg S p.2 d) : Rep K mg S (.ref a) (.dic (kvs.map (·.1)) ds)
  | dit {a : Addr} {kvs : List (List Key × V)} {ds : List D} (h : S a = some (.dT kvs)) (hl : kvs.length = ds.length) (hi : ∀ (i : Nat) (p : List Key × V) (d : D), kvs[i]? = some p → ds[i]? = some d → Rep K mg S p.2 d) : Rep K mg S (.ref a) (.dit (kvs.map (·.1)) ds)
  | obj {a C dx : Addr} {c : Str} {fs : List (Str × V)} {ds : List D} (h : S a = some (.ins C dx fs)) (hm : mg c = some (.ref C)) (hl : fs.length = ds.length) (hi : ∀ (i : Nat) (p : Str × V) (d : D), fs[i]? = some p → ds[i]? = some d → Rep K mg S p.2 d) : Rep K mg S (.ref a) (.obj c (fs.map (·.1)) ds)
  | exc {a : Addr} {c : Str} {ns : List Str} {ds : List D} : Rep K mg S (.ref a) (.exc c ns ds)
section
variable {K : PySem.W.Frag} {mg : Str → Option Value} {S S' H H' : Hp}
theorem same_rd {a : Addr} {u : HO} (e : Same S S') (h : Rd S a u) : Rd S' a u := by
  rcases h with h | ⟨o, h⟩
  · exact .inl (e _ _ h)
  · exact .inr ⟨o, e _ _ h⟩
theorem same_l {a : Addr} {xs : List V} (e : Same S S') (h : SqL K S a xs) : SqL K S' a xs := by
  rcases h with h | h
  · exact .inl (same_rd e h)
  · exact .inr h
theorem same_t {a : Addr} {xs : List V} (e : Same S S') (h : SqT K S a xs) : SqT K S' a xs := by
  rcases h with h | h
  · exact .inl (same_rd e h)
  · exact .inr h
theorem Rep.mono {v : V} {d : D} (e : Same S S') (h : Rep K mg S v d) : Rep K mg S' v d := by
  induction h with
  | non => exact .non
  | bl b => exact .bl b
  | int i => exact .int i
  | str x => exact .str x
  | lst h hl _ ih => exact .lst (e _ _ h) hl ih
  | frl h hl _ ih => exact .frl (same_l e h) hl ih
  | tup h hl _ ih => exact .tup (e _ _ h) hl ih
  | dic h hl _ ih => exact .dic (same_rd e h) hl ih
  | dit h hl _ ih => exact .dit (e _ _ h) hl ih
  | obj h hm hl _ ih => exact .obj (e _ _ h) hm hl ih
  | exc => exact .exc
/-- item by item -/
structure RepL (K : PySem.W.Frag) (mg : Str → Option Value) (S : Hp) (vs : List V) (ds : List D) : Prop where
  len : vs.length = ds.length
  at_ : ∀ (i : Nat) (v : V) (d : D), vs[i]? = some v → ds[i]? = some d → Rep K mg S v d
theorem RepL.mono {vs : List V} {ds : List D} (e : Same S S') (h : RepL K mg S vs ds) : RepL K mg S' vs ds := ⟨h.len, fun i v d a b => (h.at_ i v d a b).mono e⟩
theorem RepL.nil : RepL K mg S [] [] := ⟨rfl, fun i v d a _ => by simp at a⟩
theorem RepL.cons {v : V} {d : D} {vs : List V} {ds : List D} (h : Rep K mg S v d) (t : RepL K mg S vs ds) : RepL K mg S (v :: vs) (d :: ds) := by
  refine ⟨by rw [List.length_cons, List.length_cons, t.len], fun i w e a b => ?_⟩
  cases i with
  | zero =>
    rw [List.getElem?_cons_zero] at a b
    cases a; cases b
    exact h
  | succ i =>
    rw [List.getElem?_cons_succ] at a b
    exact t.at_ i w e a b
theorem RepL.head {v : V} {d : D} {vs : List V} {ds : List D} (t : RepL K mg S (v :: vs) (d :: ds)) : Rep K mg S v d := t.at_ 0 v d rfl rfl
theorem RepL.tail {v : V} {d : D} {vs : List V} {ds : List D} (t : RepL K mg S (v :: vs) (d :: ds)) : RepL K mg S vs ds :=
  ⟨by have := t.len; simpa using this, fun i w e a b => t.at_ (i + 1) w e (by simpa using a) (by simpa using b)⟩
theorem RepL.get {vs : List V} {ds : List D} {i : Nat} {d : D} (t : RepL K mg S vs ds) (h : ds[i]? = some d) : ∃ v, vs[i]? = some v ∧ Rep K mg S v d := by
  have hi := (List.getElem?_eq_some_iff.mp h).1
  have hv : i < vs.length := by rw [t.len]; exact hi
  exact ⟨vs[i], List.getElem?_eq_getElem hv, t.at_ i _ d (List.getElem?_eq_getElem hv) h⟩
theorem RepL.append {vs ws : List V} {ds es : List D} (t : RepL K mg S vs ds) (u : RepL K mg S ws es) : RepL K mg S (vs ++ ws) (ds ++ es) := by
  refine ⟨by rw [List.length_append, List.length_append, t.len, u.len], fun i w e a b => ?_⟩
  by_cases h : i < vs.length
  · rw [List.getElem?_append_left h] at a
    rw [List.getElem?_append_left (by rw [← t.len]; exact h)] at b
    exact t.at_ i w e a b
  · rw [List.getElem?_append_right (by omega)] at a
    rw [List.getElem?_append_right (by rw [← t.len]; omega), ← t.len] at b
    exact u.at_ _ w e a b
theorem RepL.snoc {vs : List V} {ds : List D} {v : V} {d : D} (t : RepL K mg S vs ds) (h : Rep K mg S v d) : RepL K mg S (vs ++ [v]) (ds ++ [d]) := t.append (.cons h .nil)
theorem RepL.set {vs : List V} {ds : List D} {v : V} {d : D} (t : RepL K mg S vs ds) (j : Nat) (h : Rep K mg S v d) : RepL K mg S (vs.set j v) (ds.set j d) := by
  refine ⟨by rw [List.length_set, List.length_set, t.len], fun i w e a b => ?_⟩
  rw [List.getElem?_set] at a b
  by_cases hj : j = i
  · subst hj
    rw [if_pos rfl] at a b
    split at a
    · rename_i h1
      rw [if_pos (by rw [← t.len]; exact h1)] at b
      cases a; cases b
      exact h
    · cases a
  · rw [if_neg hj] at a b
    exact t.at_ i w e a b
theorem RepL.take {vs : List V} {ds : List D} (n : Nat) (t : RepL K mg S vs ds) : RepL K mg S (vs.take n) (ds.take n) := by
  refine ⟨by rw [List.length_take, List.length_take, t.len], fun i w e a b => ?_⟩
  rw [List.getElem?_take] at a b
  split at a
  · rename_i h
    rw [if_pos h] at b
    exact t.at_ i w e a b
  · cases a
theorem RepL.drop {vs : List V} {ds : List D} (n : Nat) (t : RepL K mg S vs ds) : RepL K mg S (vs.drop n) (ds.drop n) := by
  refine ⟨by rw [List.length_drop, List.length_drop, t.len], fun i w e a b => ?_⟩
  rw [List.getElem?_drop] at a b
  exact t.at_ _ w e a b
theorem RepL.eraseIdx {vs : List V} {ds : List D} (n : Nat) (t : RepL K mg S vs ds) : RepL K mg S (vs.eraseIdx n) (ds.eraseIdx n) := by
  rw [List.eraseIdx_eq_take_drop_succ, List.eraseIdx_eq_take_drop_succ]
  exact (t.take n).append (t.drop (n + 1))
theorem RepL.dropLast {vs : List V} {ds : List D} (t : RepL K mg S vs ds) : RepL K mg S vs.dropLast ds.dropLast := by
  rw [List.dropLast_eq_take, List.dropLast_eq_take, t.len]
  exact t.take _
theorem Rep.lstL {a : Addr} {vs : List V} {ds : List D} (h : S a = some (.lst vs)) (t : RepL K mg S vs ds) : Rep K mg S (.ref a) (.lst ds) := .lst h t.len t.at_
theorem Rep.tupL {a : Addr} {vs : List V} {ds : List D} (h : S a = some (.tup vs)) (t : RepL K mg S vs ds) : Rep K mg S (.ref a) (.tup ds) := .tup h t.len t.at_
theorem Rep.of_lst {v : V} {ds : List D} (h : Rep K mg S v (.lst ds)) : ∃ a vs, v = .ref a ∧ S a = some (.lst vs) ∧ RepL K mg S vs ds := by
  cases h with
  | lst h hl hi => exact ⟨_, _, rfl, h, hl, hi⟩
theorem Rep.of_frl {v : V} {ds : List D} (h : Rep K mg S v (.frl ds)) : ∃ a vs, v = .ref a ∧ SqL K S a vs ∧ RepL K mg S vs ds := by
  cases h with
  | frl h hl hi => exact ⟨_, _, rfl, h, hl, hi⟩
theorem Rep.of_tupS {v : V} {ds : List D} (h : Rep K mg S v (.tup ds)) : ∃ a vs, v = .ref a ∧ S a = some (.tup vs) ∧ RepL K mg S vs ds := by
  cases h with
  | tup h hl hi => exact ⟨_, _, rfl, h, hl, hi⟩
theorem Rep.of_tup {v : V} {ds : List D} (h : Rep K mg S v (.tup ds)) : ∃ a vs, v = .ref a ∧ SqT K S a vs ∧ RepL K mg S vs ds := by
  obtain ⟨a, vs, e, h, r⟩ := h.of_tupS
  exact ⟨a, vs, e, .inl (.inl h), r⟩
theorem Rep.of_int {v : V} {i : Int} (h : Rep K mg S v (.int i)) : v = .int i := by cases h; rfl
theorem Rep.of_bl {v : V} {i : Bool} (h : Rep K mg S v (.bl i)) : v = .bl i := by cases h; rfl
/-- whole numbers -/
theorem RepL.ints : ∀ {vs : List V} {ns : List Int}, RepL K mg S vs (ns.map D.int) → vs = ns.map V.int
  | [], [], _ => rfl
  | [], _ :: _, h => by have := h.len; simp at this
  | _ :: _, [], h => by have := h.len; simp at this
  | v :: vs, n :: ns, h => by
    have e1 := h.head.of_int
    have e2 := RepL.ints (ns := ns) h.tail
    rw [e1, e2]
    rfl
theorem RepL.bls : ∀ {vs : List V} {ns : List Bool}, RepL K mg S vs (ns.map D.bl) → vs = ns.map V.bl
  | [], [], _ => rfl
  | [], _ :: _, h => by have := h.len; simp at this
  | _ :: _, [], h => by have := h.len; simp at this
  | v :: vs, n :: ns, h => by
    have e1 := h.head.of_bl
    have e2 := RepL.bls (ns := ns) h.tail
    rw [e1, e2]
    rfl
theorem RepL.of_ints : ∀ (ns : List Int), RepL K mg S (ns.map V.int) (ns.map D.int)
  | [] => .nil
  | n :: ns => .cons (.int n) (RepL.of_ints ns)
/-- from the view S of H to the view S' of H': all that stood stands; what the view has more is new -/
structure Step (S H S' H' : Hp) : Prop where
  hh : Same H H'
  ss : Same S S'
  sub : Same S' H'
  new : ∀ a, S' a ≠ none → S a ≠ none ∨ H a = none
theorem Step.refl (h : Same S H) : Step S H S H := ⟨Same.refl _, Same.refl _, h, fun _ x => .inl x⟩
theorem Step.trans {S1 H1 S2 H2 : Hp} (a : Step S H S1 H1) (b : Step S1 H1 S2 H2) : Step S H S2 H2 :=
  ⟨a.hh.trans b.hh, a.ss.trans b.ss, b.sub, fun x h => by
    rcases b.new x h with h | h
    · exact a.new x h
    · exact .inr (a.hh.free h)⟩
theorem Same.upd_new {H : Hp} {p : Addr} {o : HO} (h : H p = none) : Same H (upd H p o) := fun b x e => by
  rw [upd_ne (ne_of_none e h)]
  exact e
/-- a new object that the view takes in -/
theorem Step.laid {p : Addr} {o : HO} (h : Same S H) (hp : H p = none) : Step S H (upd S p o) (upd H p o) := by
  have sp : S p = none := h.free hp
  refine ⟨Same.upd_new hp, Same.upd_new sp, fun b x e => ?_, fun a x => ?_⟩
  · by_cases hb : b = p
    · subst hb
      rw [upd_same] at e ⊢
      exact e
    · rw [upd_ne hb] at e ⊢
      exact h b x e
  · by_cases ha : a = p
    · subst ha
      exact .inr hp
    · rw [upd_ne ha] at x
      exact .inl x
/-- a new object that the view does not take in -/
theorem Step.hid {p : Addr} {o : HO} (h : Same S H) (hp : H p = none) : Step S H S (upd H p o) :=
  ⟨Same.upd_new hp, Same.refl _, h.trans (Same.upd_new hp), fun _ x => .inl x⟩
theorem Step.out {S H S' H' : Hp} (a : Step S H S' H') {p : Addr} {o : HO} (h : S p = none) (hp : H p = some o) : S' p = none := by
  cases e : S' p with
  | none => rfl
  | some u =>
    rcases a.new p (by rw [e]; exact fun z => nomatch z) with z | z
    · exact absurd h z
    · rw [hp] at z; cases z
end
/-- shared data; a list that is the slot's own; an own list of own lists; an own dict (keys ints and texts; tuples) -/
inductive Md where
  | sh | ow | ow2 | dk | dt | ob (p : Addr) | ex (a : Addr) (cls : Value) (dd : Option Addr)
  /-- an own list that stands at q; an own tree of lists, n deep, one of whose lists is lent, that stands at a known place -/
  | owq (q : Addr) | tr (n : Nat) (h : Option (Nat × Addr)) (at_ : Option Addr)
  deriving DecidableEq
/-- what stands in the place of a list that is lent -/
def junk : D := .exc "" [] []
/-- a tree of lists of one's own, n deep -/
def OwnTr (K : PySem.W.Frag) (mg : Str → Option Value) (S H : Hp) : Nat → List Addr → V → D → Prop
  | 0, fp, v, d => Rep K mg S v d ∧ fp = []
  | n + 1, fp, v, d => ∃ (p : Addr) (vs : List V) (ds : List D) (fps : List (List Addr)), v = .ref p ∧ d = .lst ds ∧ fp = p :: fps.flatten ∧ S p = none ∧ H p = some (.lst vs) ∧ vs.length = ds.length ∧ fps.length = ds.length ∧
      ∀ (j : Nat) (w : V) (e : D) (f : List Addr), vs[j]? = some w → ds[j]? = some e → fps[j]? = some f → OwnTr K mg S H n f w e
/-- .. whose list number k, at q, is lent -/
def OwnTh (K : PySem.W.Frag) (mg : Str → Option Value) (S H : Hp) (n k : Nat) (q : Addr) (fp : List Addr) (v : V) (d : D) : Prop :=
  ∃ (p : Addr) (vs : List V) (ds : List D) (fps : List (List Addr)), v = .ref p ∧ d = .lst ds ∧ fp = p :: fps.flatten ∧ S p = none ∧ H p = some (.lst vs) ∧ vs.length = ds.length ∧ fps.length = ds.length ∧
      vs[k]? = some (.ref q) ∧ ds[k]? = some junk ∧ fps[k]? = some [] ∧
      ∀ (j : Nat) (w : V) (e : D) (f : List Addr), j ≠ k → vs[j]? = some w → ds[j]? = some e → fps[j]? = some f → OwnTr K mg S H n f w e
/-- what v is under the mode, in the view S of H, standing at the addresses fp -/
def OwnAt (K : PySem.W.Frag) (mg : Str → Option Value) (S H : Hp) (fp : List Addr) (v : V) (d : D) : Md → Prop
  | .sh => Rep K mg S v d ∧ fp = []
  | .ow => ∃ p vs ds, v = .ref p ∧ d = .lst ds ∧ fp = [p] ∧ S p = none ∧ H p = some (.lst vs) ∧ RepL K mg S vs ds
  | .ow2 => ∃ (p : Addr) (ps : List Addr) (dss : List (List D)), v = .ref p ∧ d = .lst (dss.map D.lst) ∧ fp = p :: ps ∧ S p = none ∧ H p = some (.lst (ps.map V.ref)) ∧ ps.length = dss.length ∧
      ∀ (j : Nat) (q : Addr) (ds : List D), ps[j]? = some q → dss[j]? = some ds → S q = none ∧ ∃ vs, H q = some (.lst vs) ∧ RepL K mg S vs ds
  | .dk => ∃ (p : Addr) (kvs : List (Key × V)) (ds : List D), v = .ref p ∧ d = .dic (kvs.map (·.1)) ds ∧ fp = [p] ∧ S p = none ∧ H p = some (.dK kvs) ∧ RepL K mg S (kvs.map (·.2)) ds
  | .dt => ∃ (p : Addr) (kvs : List (List Key × V)) (ds : List D), v = .ref p ∧ d = .dit (kvs.map (·.1)) ds ∧ fp = [p] ∧ S p = none ∧ H p = some (.dT kvs) ∧ RepL K mg S (kvs.map (·.2)) ds
  | .ob p => ∃ (dx C : Addr) (c : Str) (fs : List (Str × V)) (ds : List D), v = .ref p ∧ d = .obj c (fs.map (·.1)) ds ∧ fp = [p, dx] ∧ S p = none ∧ S dx = none ∧ mg c = some (.ref C) ∧ H p = some (.ins C dx fs) ∧ H dx = some (.own p) ∧ RepL K mg S (fs.map (·.2)) ds
  | .owq q => v = .ref q ∧ ∃ p vs ds, v = .ref p ∧ d = .lst ds ∧ fp = [p] ∧ S p = none ∧ H p = some (.lst vs) ∧ RepL K mg S vs ds
  | .tr n none a => (∀ q, a = some q → v = .ref q) ∧ OwnTr K mg S H n fp v d
  | .tr n (some (k, q)) a => (∀ q, a = some q → v = .ref q) ∧ OwnTh K mg S H (n - 1) k q fp v d
  | .ex a cls dd => ∃ (c : Str) (vfs : List (Str × V)) (ds : List D), v = .ref a ∧ d = .exc c (vfs.map (·.1)) ds ∧ fp = [] ∧ mg c = some cls ∧ ((vfs = [] ∧ dd = none) ∨ ∃ dx, dd = some dx ∧ S dx = some (.xd vfs)) ∧ RepL K mg S (vfs.map (·.2)) ds
section
variable {K : PySem.W.Frag} {mg : Str → Option Value} {S S' H H' : Hp} {fp : List Addr} {v : V} {d : D} {md : Md}
theorem mem_flat {fps : List (List Addr)} {a : Addr} (h : a ∈ fps.flatten) : ∃ (j : Nat) (f : List Addr), fps[j]? = some f ∧ a ∈ f := by
  obtain ⟨f, hf, ha⟩ := List.mem_flatten.mp h
  obtain ⟨j, hj⟩ := List.mem_iff_getElem?.mp hf
  exact ⟨j, f, hj, ha⟩
theorem flat_mem {fps : List (List Addr)} {a : Addr} {j : Nat} {f : List Addr} (hj : fps[j]? = some f) (ha : a ∈ f) : a ∈ fps.flatten := List.mem_flatten.mpr ⟨f, List.mem_of_getElem? hj, ha⟩
theorem OwnTr.step (a : Step S H S' H') : ∀ {n : Nat} {fp : List Addr} {v : V} {d : D}, OwnTr K mg S H n fp v d → OwnTr K mg S' H' n fp v d
  | 0, _, _, _, h => ⟨h.1.mono a.ss, h.2⟩
  | n + 1, _, _, _, h => by
    obtain ⟨p, vs, ds, fps, e1, e2, e3, e4, e5, e6, e7, e8⟩ := h
    exact ⟨p, vs, ds, fps, e1, e2, e3, a.out e4 e5, a.hh _ _ e5, e6, e7, fun j w e f x y z => (e8 j w e f x y z).step a⟩
theorem OwnTr.out : ∀ {n : Nat} {fp : List Addr} {v : V} {d : D}, OwnTr K mg S H n fp v d → ∀ {a : Addr}, a ∈ fp → S a = none ∧ ∃ o, H a = some o
  | 0, _, _, _, h, a, ha => by rw [h.2] at ha; cases ha
  | n + 1, _, _, _, h, a, ha => by
    obtain ⟨p, vs, ds, fps, e1, e2, e3, e4, e5, e6, e7, e8⟩ := h
    rw [e3] at ha
    rcases List.mem_cons.mp ha with rfl | ha
    · exact ⟨e4, _, e5⟩
    · obtain ⟨j, f, hj, hf⟩ := mem_flat ha
      have hl := (List.getElem?_eq_some_iff.mp hj).1
      exact (e8 j _ _ f (List.getElem?_eq_getElem (by omega)) (List.getElem?_eq_getElem (by omega)) hj).out hf
theorem OwnTr.other {p : Addr} {o : HO} (hp : S p = none) : ∀ {n : Nat} {fp : List Addr} {v : V} {d : D}, p ∉ fp → OwnTr K mg S H n fp v d → OwnTr K mg S (upd H p o) n fp v d
  | 0, _, _, _, _, h => h
  | n + 1, _, _, _, hf, h => by
    obtain ⟨q, vs, ds, fps, e1, e2, e3, e4, e5, e6, e7, e8⟩ := h
    refine ⟨q, vs, ds, fps, e1, e2, e3, e4, ?_, e6, e7, fun j w e f x y z => (e8 j w e f x y z).other hp fun i => hf ?_⟩
    · rw [upd_ne (fun z => hf (by rw [e3, z]; exact List.mem_cons_self))]
      exact e5
    · rw [e3]; exact List.mem_cons_of_mem _ (flat_mem z i)
theorem OwnTh.step {n k : Nat} {q : Addr} (a : Step S H S' H') (h : OwnTh K mg S H n k q fp v d) : OwnTh K mg S' H' n k q fp v d := by
  obtain ⟨p, vs, ds, fps, e1, e2, e3, e4, e5, e6, e7, h1, h2, h3, e8⟩ := h
  exact ⟨p, vs, ds, fps, e1, e2, e3, a.out e4 e5, a.hh _ _ e5, e6, e7, h1, h2, h3, fun j w e f i x y z => (e8 j w e f i x y z).step a⟩
theorem OwnTh.out {n k : Nat} {q : Addr} (h : OwnTh K mg S H n k q fp v d) {a : Addr} (ha : a ∈ fp) : S a = none ∧ ∃ o, H a = some o := by
  obtain ⟨p, vs, ds, fps, e1, e2, e3, e4, e5, e6, e7, h1, h2, h3, e8⟩ := h
  rw [e3] at ha
  rcases List.mem_cons.mp ha with rfl | ha
  · exact ⟨e4, _, e5⟩
  · obtain ⟨j, f, hj, hf⟩ := mem_flat ha
    have hl := (List.getElem?_eq_some_iff.mp hj).1
    have hjk : j ≠ k := fun z => by subst z; rw [h3] at hj; cases hj; cases hf
    exact (e8 j _ _ f hjk (List.getElem?_eq_getElem (by omega)) (List.getElem?_eq_getElem (by omega)) hj).out hf
theorem OwnTh.other {n k : Nat} {q : Addr} {p : Addr} {o : HO} (hp : S p = none) (hf : p ∉ fp) (h : OwnTh K mg S H n k q fp v d) : OwnTh K mg S (upd H p o) n k q fp v d := by
  obtain ⟨p', vs, ds, fps, e1, e2, e3, e4, e5, e6, e7, h1, h2, h3, e8⟩ := h
  refine ⟨p', vs, ds, fps, e1, e2, e3, e4, ?_, e6, e7, h1, h2, h3, fun j w e f i x y z => (e8 j w e f i x y z).other hp fun i => hf ?_⟩
  · rw [upd_ne (fun z => hf (by rw [e3, z]; exact List.mem_cons_self))]
    exact e5
  · rw [e3]; exact List.mem_cons_of_mem _ (flat_mem z i)
theorem OwnAt.step (a : Step S H S' H') (h : OwnAt K mg S H fp v d md) : OwnAt K mg S' H' fp v d md := by
  cases md with
  | owq q0 =>
    obtain ⟨e0, p, vs, ds, e1, e2, e3, e4, e5, e6⟩ := h
    exact ⟨e0, p, vs, ds, e1, e2, e3, a.out e4 e5, a.hh _ _ e5, e6.mono a.ss⟩
  | tr n b at_ =>
    cases b with
    | none => exact ⟨h.1, h.2.step a⟩
    | some kq => exact ⟨h.1, h.2.step a⟩
  | ex a0 b0 c0 =>
    obtain ⟨c, vfs, ds, e1, e2, e3, e4, e5, e6⟩ := h
    refine ⟨c, vfs, ds, e1, e2, e3, e4, e5.imp id fun ⟨dx, y1, y2⟩ => ⟨dx, y1, a.ss _ _ y2⟩, e6.mono (a.ss)⟩
  | sh => exact ⟨h.1.mono a.ss, h.2⟩
  | ow =>
    obtain ⟨p, vs, ds, e1, e2, e3, e4, e5, e6⟩ := h
    exact ⟨p, vs, ds, e1, e2, e3, a.out e4 e5, a.hh _ _ e5, e6.mono a.ss⟩
  | ow2 =>
    obtain ⟨p, ps, dss, e1, e2, e3, e4, e5, e6, e7⟩ := h
    refine ⟨p, ps, dss, e1, e2, e3, a.out e4 e5, a.hh _ _ e5, e6, fun j q ds x y => ?_⟩
    obtain ⟨z1, vs, z2, z3⟩ := e7 j q ds x y
    exact ⟨a.out z1 z2, vs, a.hh _ _ z2, z3.mono a.ss⟩
  | dk =>
    obtain ⟨p, vs, ds, e1, e2, e3, e4, e5, e6⟩ := h
    exact ⟨p, vs, ds, e1, e2, e3, a.out e4 e5, a.hh _ _ e5, e6.mono a.ss⟩
  | dt =>
    obtain ⟨p, vs, ds, e1, e2, e3, e4, e5, e6⟩ := h
    exact ⟨p, vs, ds, e1, e2, e3, a.out e4 e5, a.hh _ _ e5, e6.mono a.ss⟩
  | ob p =>
    obtain ⟨dx, C, c, fs, ds, e1, e2, e3, e4, e5, e6, e7, e8, e9⟩ := h
    exact ⟨dx, C, c, fs, ds, e1, e2, e3, a.out e4 e7, a.out e5 e8, e6, a.hh _ _ e7, a.hh _ _ e8, e9.mono a.ss⟩
/-- its addresses are tracked, and out of the view -/
theorem OwnAt.out (h : OwnAt K mg S H fp v d md) {a : Addr} (ha : a ∈ fp) : S a = none ∧ ∃ o, H a = some o := by
  cases md with
  | owq q0 =>
    obtain ⟨e0, p, vs, ds, e1, e2, e3, e4, e5, e6⟩ := h
    rw [e3] at ha
    have : a = p := by simpa using ha
    subst this
    exact ⟨e4, _, e5⟩
  | tr n b at_ =>
    cases b with
    | none => exact h.2.out ha
    | some kq => exact h.2.out ha
  | ex a0 b0 c0 =>
    obtain ⟨c, vfs, ds, e1, e2, e3, e4, e5, e6⟩ := h
    rw [e3] at ha; cases ha
  | sh => rw [h.2] at ha; cases ha
  | ow =>
    obtain ⟨p, vs, ds, e1, e2, e3, e4, e5, e6⟩ := h
    rw [e3] at ha
    have : a = p := by simpa using ha
    subst this
    exact ⟨e4, _, e5⟩
  | ow2 =>
    obtain ⟨p, ps, dss, e1, e2, e3, e4, e5, e6, e7⟩ := h
    rw [e3] at ha
    rcases List.mem_cons.mp ha with z | z
    · subst z; exact ⟨e4, _, e5⟩
    · obtain ⟨j, hj⟩ := List.mem_iff_getElem?.mp z
      have hl : j < dss.length := by rw [← e6]; exact (List.getElem?_eq_some_iff.mp hj).1
      obtain ⟨z1, vs, z2, _⟩ := e7 j a _ hj (List.getElem?_eq_getElem hl)
      exact ⟨z1, _, z2⟩
  | dk =>
    obtain ⟨p, vs, ds, e1, e2, e3, e4, e5, e6⟩ := h
    rw [e3] at ha
    have : a = p := by simpa using ha
    subst this
    exact ⟨e4, _, e5⟩
  | dt =>
    obtain ⟨p, vs, ds, e1, e2, e3, e4, e5, e6⟩ := h
    rw [e3] at ha
    have : a = p := by simpa using ha
    subst this
    exact ⟨e4, _, e5⟩
  | ob p =>
    obtain ⟨dx, C, c, fs, ds, e1, e2, e3, e4, e5, e6, e7, e8, e9⟩ := h
    rw [e3] at ha
    have : a = p ∨ a = dx := by simpa using ha
    rcases this with rfl | rfl
    · exact ⟨e4, _, e7⟩
    · exact ⟨e5, _, e8⟩
/-- another object is written -/
theorem OwnAt.other {p : Addr} {o : HO} (hp : S p = none) (hf : p ∉ fp) (h : OwnAt K mg S H fp v d md) : OwnAt K mg S (upd H p o) fp v d md := by
  cases md with
  | owq q0 =>
    obtain ⟨e0, q, vs, ds, e1, e2, e3, e4, e5, e6⟩ := h
    refine ⟨e0, q, vs, ds, e1, e2, e3, e4, ?_, e6⟩
    rw [upd_ne (fun z => hf (by rw [e3, z]; exact List.mem_cons_self))]
    exact e5
  | tr n b at_ =>
    cases b with
    | none => exact ⟨h.1, h.2.other hp hf⟩
    | some kq => exact ⟨h.1, h.2.other hp hf⟩
  | ex a0 b0 c0 => exact h
  | sh => exact h
  | ow =>
    obtain ⟨q, vs, ds, e1, e2, e3, e4, e5, e6⟩ := h
    refine ⟨q, vs, ds, e1, e2, e3, e4, ?_, e6⟩
    rw [upd_ne (fun z => hf (by rw [e3, z]; exact List.mem_cons_self))]
    exact e5
  | ow2 =>
    obtain ⟨q, ps, dss, e1, e2, e3, e4, e5, e6, e7⟩ := h
    refine ⟨q, ps, dss, e1, e2, e3, e4, ?_, e6, fun j r ds x y => ?_⟩
    · rw [upd_ne (fun z => hf (by rw [e3, z]; exact List.mem_cons_self))]
      exact e5
    · obtain ⟨z1, vs, z2, z3⟩ := e7 j r ds x y
      refine ⟨z1, vs, ?_, z3⟩
      rw [upd_ne (fun z => hf (by rw [e3, ← z]; exact List.mem_cons_of_mem _ (List.mem_of_getElem? x)))]
      exact z2
  | dk =>
    obtain ⟨q, vs, ds, e1, e2, e3, e4, e5, e6⟩ := h
    refine ⟨q, vs, ds, e1, e2, e3, e4, ?_, e6⟩
    rw [upd_ne (fun z => hf (by rw [e3, z]; exact List.mem_cons_self))]
    exact e5
  | dt =>
    obtain ⟨q, vs, ds, e1, e2, e3, e4, e5, e6⟩ := h
    refine ⟨q, vs, ds, e1, e2, e3, e4, ?_, e6⟩
    rw [upd_ne (fun z => hf (by rw [e3, z]; exact List.mem_cons_self))]
    exact e5
  | ob q =>
    obtain ⟨dx, C, c, fs, ds, e1, e2, e3, e4, e5, e6, e7, e8, e9⟩ := h
    refine ⟨dx, C, c, fs, ds, e1, e2, e3, e4, e5, e6, ?_, ?_, e9⟩
    · rw [upd_ne (fun z => hf (by rw [e3, z]; exact List.mem_cons_self))]
      exact e7
    · rw [upd_ne (fun z => hf (by rw [e3, z]; exact List.mem_cons_of_mem _ List.mem_cons_self))]
      exact e8
end
/-- the data of the slots; none: nothing is known of the slot -/
abbrev Env := List (Option D)
abbrev Mds := List Md
def mdAt (m : Mds) (i : Nat) : Md := m.getD i .sh
/-- the slots σ hold the data ρ, each by its mode, standing at F -/
structure EnvF (K : PySem.W.Frag) (mg : Str → Option Value) (m : Mds) (F : Nat → List Addr) (S H : Hp) (σ : St) (ρ : Env) : Prop where
  len : ρ.length = σ.length
  at_ : ∀ i d, ρ[i]? = some (some d) → ∃ v, σ[i]? = some (some v) ∧ OwnAt K mg S H (F i) v d (mdAt m i)
  nd : ∀ i d, ρ[i]? = some (some d) → (F i).Nodup
  apart : ∀ i j d e, i ≠ j → ρ[i]? = some (some d) → ρ[j]? = some (some e) → ∀ a, a ∈ F i → a ∉ F j
def EnvM (K : PySem.W.Frag) (mg : Str → Option Value) (m : Mds) (S H : Hp) (σ : St) (ρ : Env) : Prop := Same S H ∧ ∃ F, EnvF K mg m F S H σ ρ
section
variable {K : PySem.W.Frag} {mg : Str → Option Value} {m : Mds} {F : Nat → List Addr} {S S' H H' : Hp} {σ : St} {ρ : Env}
theorem EnvF.step (a : Step S H S' H') (h : EnvF K mg m F S H σ ρ) : EnvF K mg m F S' H' σ ρ :=
  ⟨h.len, fun i d e => by
    obtain ⟨v, e1, e2⟩ := h.at_ i d e
    exact ⟨v, e1, e2.step a⟩, h.nd, h.apart⟩
theorem EnvM.step (a : Step S H S' H') (h : EnvM K mg m S H σ ρ) : EnvM K mg m S' H' σ ρ := by
  obtain ⟨_, F, h⟩ := h
  exact ⟨a.sub, F, h.step a⟩
end
end Da
namespace Da
open PySem PySem.Spec L2
section
variable {K : PySem.W.Frag} {mg : Str → Option Value} {E : XK} {S S' H H' : Hp}
/-- an own exception: its class, its own dict -/
def ExcAt (K : PySem.W.Frag) (mg : Str → Option Value) (S H : Hp) (cls : Value) (dd : Option Addr) (c : Str) (fs : List (Str × D)) : Prop :=
  mg c = some cls ∧ ((fs = [] ∧ dd = none) ∨ ∃ a vfs, dd = some a ∧ S a = some (.xd vfs) ∧ vfs.map (·.1) = fs.map (·.1) ∧ RepL K mg S (vfs.map (·.2)) (fs.map (·.2)))
/-- what is wanted of a run's end -/
def PostW {α : Type} (K : PySem.W.Frag) (mg : Str → Option Value) (E : XK) (S H : Hp) (r : Res α) (k : α → Hp → Hp → Prop) : Prop := match r with
  | .ok a => ∀ S' H', Step S H S' H' → k a S' H'
  | .ex c fs => ∀ S' H' cls dd, Step S H S' H' → ExcAt K mg S' H' cls dd c fs → E cls dd H'
  | .er => False
/-- .. of a value's -/
def Post (K : PySem.W.Frag) (mg : Str → Option Value) (E : XK) (S H : Hp) (md : Md) (r : Res D) (Q : VK) : Prop := match r with
  | .ok d => ∀ v S' H' fp, Step S H S' H' → OwnAt K mg S' H' fp v d md → fp.Nodup → (∀ a ∈ fp, H a = none) → Q v H'
  | .ex c fs => ∀ S' H' cls dd, Step S H S' H' → ExcAt K mg S' H' cls dd c fs → E cls dd H'
  | .er => False
theorem PostW.step {α : Type} {r : Res α} {k : α → Hp → Hp → Prop} (st : Step S H S' H') (h : PostW K mg E S H r k) : PostW K mg E S' H' r k := by
  cases r with
  | ok a => exact fun S2 H2 s2 => h S2 H2 (st.trans s2)
  | ex c fs => exact fun S2 H2 cls dd s2 => h S2 H2 cls dd (st.trans s2)
  | er => exact h
theorem Post.step {md : Md} {r : Res D} {Q : VK} (st : Step S H S' H') (h : Post K mg E S H md r Q) : Post K mg E S' H' md r Q := by
  cases r with
  | ok a => exact fun v S2 H2 fp s2 o n f => h v S2 H2 fp (st.trans s2) o n fun a ha => st.hh.free (f a ha)
  | ex c fs => exact fun S2 H2 cls dd s2 => h S2 H2 cls dd (st.trans s2)
  | er => exact h
theorem Post.bind {α : Type} {md : Md} {r : Res α} {f : α → Res D} {Q : VK} (h : Post K mg E S H md (r.bind f) Q) : PostW K mg E S H r fun a S1 H1 => Post K mg E S1 H1 md (f a) Q := by
  cases r with
  | ok a => exact fun S2 H2 s2 => Post.step s2 h
  | ex c fs => exact h
  | er => exact h
theorem PostW.bind {α β : Type} {r : Res α} {f : α → Res β} {k : β → Hp → Hp → Prop} (h : PostW K mg E S H (r.bind f) k) : PostW K mg E S H r fun a S1 H1 => PostW K mg E S1 H1 (f a) k := by
  cases r with
  | ok a => exact fun S2 H2 s2 => PostW.step s2 h
  | ex c fs => exact h
  | er => exact h
theorem PostW.imp {α : Type} {r : Res α} {k k' : α → Hp → Hp → Prop} (h : PostW K mg E S H r k) (g : ∀ a S' H', Step S H S' H' → k a S' H' → k' a S' H') : PostW K mg E S H r k' := by
  cases r with
  | ok a => exact fun S2 H2 s2 => g a S2 H2 s2 (h S2 H2 s2)
  | ex c fs => exact h
  | er => exact h
/-- a shared value is handed on -/
theorem PostW.post {r : Res D} {k : D → Hp → Hp → Prop} {Q : VK} (h : PostW K mg E S H r k) (g : ∀ d v S' H', Step S H S' H' → Rep K mg S' v d → k d S' H' → Q v H') : Post K mg E S H .sh r Q := by
  cases r with
  | ok a => exact fun v S2 H2 fp s2 o n f => g a v S2 H2 s2 o.1 (h S2 H2 s2)
  | ex c fs => exact h
  | er => exact h
theorem PostW.postM {md : Md} {r : Res D} {k : D → Hp → Hp → Prop} {Q : VK} (h : PostW K mg E S H r k) (g : ∀ d v S' H' fp, Step S H S' H' → OwnAt K mg S' H' fp v d md → fp.Nodup → (∀ a ∈ fp, H a = none) → k d S' H' → Q v H') : Post K mg E S H md r Q := by
  cases r with
  | ok a => exact fun v S2 H2 fp s2 o n f => g a v S2 H2 fp s2 o n f (h S2 H2 s2)
  | ex c fs => exact h
  | er => exact h
/-- a shared value that stands already -/
theorem Post.val {d : D} {v : V} {Q : VK} (h : Post K mg E S H .sh (.ok d) Q) (hs : Same S H) (r : Rep K mg S v d) : Q v H := h v S H [] (Step.refl hs) ⟨r, rfl⟩ List.nodup_nil (fun a z => nomatch z)
/-- a new list, a new tuple -/
theorem Post.lst {ds : List D} {vs : List V} {p : Addr} {Q : VK} (h : Post K mg E S H .sh (.ok (.lst ds)) Q) (hs : Same S H) (r : RepL K mg S vs ds) (hp : H p = none) : Q (.ref p) (upd H p (.lst vs)) :=
  h _ _ _ [] (Step.laid hs hp) ⟨Rep.lstL upd_same (r.mono (Step.laid hs hp).ss), rfl⟩ List.nodup_nil (fun a z => nomatch z)
theorem Post.tup {ds : List D} {vs : List V} {p : Addr} {Q : VK} (h : Post K mg E S H .sh (.ok (.tup ds)) Q) (hs : Same S H) (r : RepL K mg S vs ds) (hp : H p = none) : Q (.ref p) (upd H p (.tup vs)) :=
  h _ _ _ [] (Step.laid hs hp) ⟨Rep.tupL upd_same (r.mono (Step.laid hs hp).ss), rfl⟩ List.nodup_nil (fun a z => nomatch z)
/-- a new list that is one's own -/
theorem Post.own {ds : List D} {vs : List V} {p : Addr} {Q : VK} (h : Post K mg E S H .ow (.ok (.lst ds)) Q) (hs : Same S H) (r : RepL K mg S vs ds) (hp : H p = none) : Q (.ref p) (upd H p (.lst vs)) :=
  h _ S _ [p] (Step.hid hs hp) ⟨p, vs, ds, rfl, rfl, rfl, hs.free hp, upd_same, r⟩ (by simp) (fun a z => by
    have : a = p := by simpa using z
    rw [this]; exact hp)
/-- a list, kept or shared -/
theorem Post.list {md : Md} (hmd : md = .sh ∨ md = .ow) {ds : List D} {vs : List V} {p : Addr} {Q : VK} (h : Post K mg E S H md (.ok (.lst ds)) Q) (hs : Same S H) (r : RepL K mg S vs ds) (hp : H p = none) : Q (.ref p) (upd H p (.lst vs)) := by
  rcases hmd with rfl | rfl
  · exact h.lst hs r hp
  · exact h.own hs r hp
end
def tE (K : PySem.W.Frag) (mg : Str → Option Value) (E : WX) (m : Mds) (md : Md) (f : Env → Res D) : TE := fun σ H Q => ∃ S ρ, EnvM K mg m S H σ ρ ∧ Post K mg (WE E σ) S H md (f ρ) Q
def tT (K : PySem.W.Frag) (mg : Str → Option Value) (E : WX) (m : Mds) (f : Env → Res Bool) : TT := fun σ H Q => ∃ S ρ, EnvM K mg m S H σ ρ ∧ PostW K mg (WE E σ) S H (f ρ) fun b _ H' => Q b H'
def tA (K : PySem.W.Frag) (mg : Str → Option Value) (E : WX) (m : Mds) (f : Env → Res (List D)) : TA := fun σ H Q => ∃ S ρ, EnvM K mg m S H σ ρ ∧ PostW K mg (WE E σ) S H (f ρ) fun ds S' H' => ∀ vs, RepL K mg S' vs ds → Q vs H'
structure JE (X : Cx) (E : WX) (m : Mds) (md : Md) (e : Expr) (f : Env → Res D) : Prop where
  pe : PE X e (tE X.K X.mg E m md f)
structure JT (X : Cx) (E : WX) (m : Mds) (e : Expr) (f : Env → Res Bool) : Prop where
  pt : PT X e (tT X.K X.mg E m f)
structure JW (X : Cx) (E : WX) (m : Mds) (e : Expr) (f : Env → Res Bool) : Prop where
  pw : PW X e (tT X.K X.mg E m f)
structure JA (X : Cx) (E : WX) (m : Mds) (es : List Expr) (f : Env → Res (List D)) : Prop where
  pa : PA X es (tA X.K X.mg E m f)
section
variable {X : Cx} {e : Expr} {es : List Expr}
theorem PEimp {t t' : TE} (h : PE X e t) (g : ∀ σ H Q, t' σ H Q → t σ H Q) : PE X e t' := ⟨fun pins s σ H Q I q => h.run pins s σ H Q I (g σ H Q q)⟩
theorem PTimp {t t' : TT} (h : PT X e t) (g : ∀ σ H Q, t' σ H Q → t σ H Q) : PT X e t' := ⟨fun pins s σ H Q I q => h.run pins s σ H Q I (g σ H Q q)⟩
theorem PWimp {t t' : TT} (h : PW X e t) (g : ∀ σ H Q, t' σ H Q → t σ H Q) : PW X e t' := ⟨fun wh pins s σ H Q I q => h.run wh pins s σ H Q I (g σ H Q q)⟩
theorem PAimp {t t' : TA} (h : PA X es t) (g : ∀ σ H Q, t' σ H Q → t σ H Q) : PA X es t' := ⟨fun pos pins s σ H Q I q => h.run pos pins s σ H Q I (g σ H Q q)⟩
end
def fC (d : D) : Env → Res D := fun _ => .ok d
def fV (i : Nat) : Env → Res D := fun ρ => match ρ[i]? with
  | some (some d) => .ok d
  | _ => .er
def f1 (g : D → Res D) (fa : Env → Res D) : Env → Res D := fun ρ => (fa ρ).bind g
def f2 (g : D → D → Res D) (fa fb : Env → Res D) : Env → Res D := fun ρ => (fa ρ).bind fun x => (fb ρ).bind fun y => g x y
def fA0 : Env → Res (List D) := fun _ => .ok []
def fA (fa : Env → Res D) (fr : Env → Res (List D)) : Env → Res (List D) := fun ρ => (fa ρ).bind fun x => (fr ρ).bind fun xs => .ok (x :: xs)
def fOn (g : List D → Res D) (fa : Env → Res (List D)) : Env → Res D := fun ρ => (fa ρ).bind g
def asB : D → Res Bool
  | .bl b => .ok b
  | _ => .er
/-- an operation on values does what g says -/
def OpD (K : PySem.W.Frag) (mg : Str → Option Value) (md : Md) (r : R2) (g : D → D → Res D) : Prop :=
  ∀ (E : XK) (S H : Hp) (x y : V) (dx dy : D) (Q : VK), Same S H → Rep K mg S x dx → Rep K mg S y dy → Post K mg E S H md (g dx dy) Q → r x y H Q
def UnD (K : PySem.W.Frag) (mg : Str → Option Value) (md : Md) (r : V → Hp → VK → Prop) (g : D → Res D) : Prop :=
  ∀ (E : XK) (S H : Hp) (x : V) (dx : D) (Q : VK), Same S H → Rep K mg S x dx → Post K mg E S H md (g dx) Q → r x H Q
def CallD (K : PySem.W.Frag) (mg : Str → Option Value) (md : Md) (r : List V → Hp → VK → Prop) (g : List D → Res D) : Prop :=
  ∀ (E : XK) (S H : Hp) (xs : List V) (ds : List D) (Q : VK), Same S H → RepL K mg S xs ds → Post K mg E S H md (g ds) Q → r xs H Q
section
variable {X : Cx} {E : WX} {m : Mds} {md : Md} {a b : Expr} {es : List Expr} {fa fb : Env → Res D} {pos : Pos}
theorem two {t : R2} {g : D → D → Res D} {K : PySem.W.Frag} {mg : Str → Option Value} (hr : OpD K mg md t g) {σ : L2.St} {H : Hp} {Q : VK} (h : tE K mg E m md (f2 g fa fb) σ H Q) : tOp t (tE K mg E m .sh fa) (tE K mg E m .sh fb) σ H Q := by
  obtain ⟨S, ρ, hm, hp⟩ := h
  refine ⟨S, ρ, hm, (Post.bind hp).post fun dx v S1 H1 s1 r1 h1 => ?_⟩
  exact ⟨S1, ρ, hm.step s1, (Post.bind h1).post fun dy w S2 H2 s2 r2 h2 => hr _ S2 H2 v w dx dy Q s2.sub (r1.mono s2.ss) r2 h2⟩
theorem one {t : V → Hp → VK → Prop} {g : D → Res D} {K : PySem.W.Frag} {mg : Str → Option Value} (hr : UnD K mg md t g) {σ : L2.St} {H : Hp} {Q : VK} (h : tE K mg E m md (f1 g fa) σ H Q) : tUn t (tE K mg E m .sh fa) σ H Q := by
  obtain ⟨S, ρ, hm, hp⟩ := h
  exact ⟨S, ρ, hm, (Post.bind hp).post fun dx v S1 H1 s1 r1 h1 => hr _ S1 H1 v dx Q s1.sub r1 h1⟩
theorem je_op {op : Operator} {r : R2} {g : D → D → Res D} (ho : OpR X (binaryOp op) r) (hr : OpD X.K X.mg md r g) (ha : JE X E m .sh a fa) (hb : JE X E m .sh b fb) : JE X E m md (.BinOp a op b pos) (f2 g fa fb) :=
  ⟨PEimp (pe_op ho ha.pe hb.pe) fun σ H Q h => two hr h⟩
theorem je_un {op : UnaryOp} {r : V → Hp → VK → Prop} {g : D → Res D} (ho : UnR X (unaryOp op) r) (hr : UnD X.K X.mg md r g) (ha : JE X E m .sh a fa) : JE X E m md (.UnaryOp op a pos) (f1 g fa) :=
  ⟨PEimp (pe_un ho ha.pe) fun σ H Q h => one hr h⟩
theorem je_cmp {op : CmpOp} {r : R2} {g : D → D → Res D} (ho : OpR X (compareOp op) r) (hr : OpD X.K X.mg .sh r g) (ha : JE X E m .sh a fa) (hb : JE X E m .sh b fb) (hm : behindInMarks op b = false := by rfl) : JE X E m .sh (.Compare a [op] [b] pos) (f2 g fa fb) :=
  ⟨PEimp (pe_cmpR ho ha.pe hb.pe hm) fun σ H Q h => two hr h⟩
theorem je_ix {r : R2} {g : D → D → Res D} (ho : IxR X r) (hr : OpD X.K X.mg .sh r g) (ha : JE X E m .sh a fa) (hb : JE X E m .sh b fb) (hs : PlainIx b := by intro _ _; rfl) : JE X E m .sh (.Subscript a b pos) (f2 g fa fb) :=
  ⟨PEimp (pe_ix ho ha.pe hb.pe hs) fun σ H Q h => two hr h⟩
/-- a value that is a bool, as a test -/
def fB (f : Env → Res D) : Env → Res Bool := fun ρ => (f ρ).bind asB
theorem jt_cmp {op : CmpOp} {r : R2} {g : D → D → Res D} (ho : OpR X (compareOp op) r) (hr : OpD X.K X.mg .sh r g) (ha : JE X E m .sh a fa) (hb : JE X E m .sh b fb) (hm : behindInMarks op b = false := by rfl) : JT X E m (.Compare a [op] [b] pos) (fB (f2 g fa fb)) := by
  refine ⟨PTimp (pt_cmpR ho ha.pe hb.pe hm) fun σ H Q h => ?_⟩
  obtain ⟨S, ρ, hm, hp⟩ := h
  have k : tE X.K X.mg E m .sh (f2 g fa fb) σ H fun x H' => ∃ k, x = .bl k ∧ Q k H' := by
    refine ⟨S, ρ, hm, (PostW.bind hp).post fun d v S1 H1 s1 r1 h1 => ?_⟩
    cases d with
    | bl c =>
      cases r1
      exact ⟨c, rfl, h1 S1 H1 (Step.refl s1.sub)⟩
    | _ => exact h1.elim
  exact two hr k
theorem je_int {i : Int} {j} : JE X E m .sh (.Constant (.int i) j pos) (fC (.int i)) := ⟨PEimp pe_int fun σ H Q h => by obtain ⟨S, ρ, hm, hp⟩ := h; exact Post.val hp hm.1 (.int i)⟩
theorem je_bl {i : Bool} {j} : JE X E m .sh (.Constant (.bool i) j pos) (fC (.bl i)) := ⟨PEimp pe_bl fun σ H Q h => by obtain ⟨S, ρ, hm, hp⟩ := h; exact Post.val hp hm.1 (.bl i)⟩
theorem je_non {j} : JE X E m .sh (.Constant .none j pos) (fC .non) := ⟨PEimp pe_non fun σ H Q h => by obtain ⟨S, ρ, hm, hp⟩ := h; exact Post.val hp hm.1 .non⟩
theorem je_str {x : Str} {j} : JE X E m .sh (.Constant (.str x) j pos) (fC (.str x)) := ⟨PEimp pe_str fun σ H Q h => by obtain ⟨S, ρ, hm, hp⟩ := h; exact Post.val hp hm.1 (.str x)⟩
/-- a name whose data are shared -/
theorem je_var (i : Nat) {x : Str} (hmd : mdAt m i = .sh := by rfl) (hN : X.N[i]? = some x := by rfl) (hv : Vis X.env.scope x := by first | exact Or.inl rfl | exact Or.inr (Or.inl rfl) | exact Or.inr (Or.inr rfl)) (hd : (x == ("__debug__" : Str)) = false := by decide)
    (hcd : (x == ("__classdict__" : Str)) = false := by decide) : JE X E m .sh (.Name x pos) (fV i) := by
  refine ⟨PEimp (pe_var hN hv hd hcd) fun σ H Q h => ?_⟩
  obtain ⟨S, ρ, ⟨hs, F, hm⟩, hp⟩ := h
  unfold fV at hp
  split at hp
  · rename_i d e
    obtain ⟨v, e1, e2⟩ := hm.at_ i d e
    rw [hmd] at e2
    exact ⟨v, e1, hp.val hs e2.1⟩
  · exact hp.elim
theorem ja_nil : JA X E m [] fA0 := ⟨PAimp pa_nil fun σ H Q h => by obtain ⟨S, ρ, hm, hp⟩ := h; exact hp S H (Step.refl hm.1) [] .nil⟩
theorem ja_cons {fr : Env → Res (List D)} (ha : JE X E m .sh a fa) (hr : JA X E m es fr) (hs : starEach (a :: es) X.env = (false, eval a X.env) :: starEach es X.env := by rfl) : JA X E m (a :: es) (fA fa fr) := by
  refine ⟨PAimp (pa_cons ha.pe hr.pa hs) fun σ H Q h => ?_⟩
  obtain ⟨S, ρ, hm, hp⟩ := h
  refine ⟨S, ρ, hm, (PostW.bind hp).post fun d v S1 H1 s1 r1 h1 => ?_⟩
  refine ⟨S1, ρ, hm.step s1, (PostW.bind h1).imp fun ds S2 H2 s2 h2 vs rs => ?_⟩
  exact h2 S2 H2 (Step.refl s2.sub) (v :: vs) (.cons (r1.mono s2.ss) rs)
def gTupD (ds : List D) : Res D := if ds.length ≤ 100000 then .ok (.tup ds) else .er
def gLstD (ds : List D) : Res D := if ds.length ≤ 100000 then .ok (.lst ds) else .er
theorem small5 {n : Nat} (h : n ≤ 100000) : n ≤ sizeLine := by rw [sizeLine_eq]; omega
theorem je_tup {fr : Env → Res (List D)} {x1} (h : JA X E m es fr) : JE X E m .sh (.Tuple es x1 pos) (fOn gTupD fr) := by
  refine ⟨PEimp (pe_tup h.pa) fun σ H Q h => ?_⟩
  obtain ⟨S, ρ, hm, hp⟩ := h
  refine ⟨S, ρ, hm, (Post.bind hp).imp fun ds S1 H1 s1 h1 vs rs => ?_⟩
  unfold gTupD at h1
  split at h1
  · rename_i hz
    exact ⟨by rw [rs.len]; exact small5 hz, fun p hp => h1.tup s1.sub rs hp⟩
  · exact h1.elim
theorem je_lst {fr : Env → Res (List D)} (h : JA X E m es fr) (hmd : md = .sh ∨ md = .ow := by first | exact .inl rfl | exact .inr rfl) : JE X E m md (.List es pos) (fOn gLstD fr) := by
  refine ⟨PEimp (pe_lst h.pa) fun σ H Q h => ?_⟩
  obtain ⟨S, ρ, hm, hp⟩ := h
  refine ⟨S, ρ, hm, (Post.bind hp).imp fun ds S1 H1 s1 h1 vs rs => ?_⟩
  unfold gLstD at h1
  split at h1
  · rename_i hz
    exact ⟨by rw [rs.len]; exact small5 hz, fun p hp => h1.list hmd s1.sub rs hp⟩
  · exact h1.elim
def fAnd (fa fb : Env → Res Bool) : Env → Res Bool := fun ρ => (fa ρ).bind fun c => if c = true then fb ρ else .ok false
def fOr (fa fb : Env → Res Bool) : Env → Res Bool := fun ρ => (fa ρ).bind fun c => if c = true then .ok true else fb ρ
def fNot (fa : Env → Res Bool) : Env → Res Bool := fun ρ => (fa ρ).bind fun c => .ok (!c)
def fIf (fc : Env → Res Bool) (fa fb : Env → Res D) : Env → Res D := fun ρ => (fc ρ).bind fun c => if c = true then fa ρ else fb ρ
variable {ga gb gc : Env → Res Bool} {c : Expr} {rest : List Expr}
theorem JW.jt (h : JW X E m a ga) : JT X E m a ga := ⟨h.pw.pt⟩
theorem jw_and1 (ha : JT X E m a ga) : JW X E m (.BoolOp .And [a] pos) ga := ⟨pw_and1 ha.pt⟩
theorem jw_or1 (ha : JT X E m a ga) : JW X E m (.BoolOp .Or [a] pos) ga := ⟨pw_or1 ha.pt⟩
theorem and_ok {K : PySem.W.Frag} {mg : Str → Option Value} {σ : L2.St} {H : Hp} {Q : Bool → Hp → Prop} (h : tT K mg E m (fAnd ga gb) σ H Q) : tAnd (tT K mg E m ga) (tT K mg E m gb) σ H Q := by
  obtain ⟨S, ρ, hm, hp⟩ := h
  refine ⟨S, ρ, hm, (PostW.bind hp).imp fun d S1 H1 s1 h1 => ?_⟩
  cases d with
  | true => exact ⟨S1, ρ, hm.step s1, h1⟩
  | false => exact h1 S1 H1 (Step.refl s1.sub)
theorem or_ok {K : PySem.W.Frag} {mg : Str → Option Value} {σ : L2.St} {H : Hp} {Q : Bool → Hp → Prop} (h : tT K mg E m (fOr ga gb) σ H Q) : tOr (tT K mg E m ga) (tT K mg E m gb) σ H Q := by
  obtain ⟨S, ρ, hm, hp⟩ := h
  refine ⟨S, ρ, hm, (PostW.bind hp).imp fun d S1 H1 s1 h1 => ?_⟩
  cases d with
  | false => exact ⟨S1, ρ, hm.step s1, h1⟩
  | true => exact h1 S1 H1 (Step.refl s1.sub)
theorem jw_and (ha : JT X E m a ga) (hb : JW X E m (.BoolOp .And (b :: rest) pos) gb) : JW X E m (.BoolOp .And (a :: b :: rest) pos) (fAnd ga gb) :=
  ⟨PWimp (pw_and ha.pt hb.pw) fun σ H Q h => and_ok h⟩
theorem jw_or (ha : JT X E m a ga) (hb : JW X E m (.BoolOp .Or (b :: rest) pos) gb) : JW X E m (.BoolOp .Or (a :: b :: rest) pos) (fOr ga gb) :=
  ⟨PWimp (pw_or ha.pt hb.pw) fun σ H Q h => or_ok h⟩
theorem jt_not (ha : JT X E m a ga) : JT X E m (.UnaryOp .Not a pos) (fNot ga) := by
  refine ⟨PTimp (pt_not ha.pt) fun σ H Q h => ?_⟩
  obtain ⟨S, ρ, hm, hp⟩ := h
  exact ⟨S, ρ, hm, (PostW.bind hp).imp fun d S1 H1 s1 h1 => h1 S1 H1 (Step.refl s1.sub)⟩
/-- as values: all are bools -/
def fBv (f : Env → Res Bool) : Env → Res D := fun ρ => (f ρ).bind fun b => .ok (.bl b)
theorem je_and (ha : JE X E m .sh a fa) (hb : JE X E m .sh (.BoolOp .And (b :: rest) pos) (fBv gb)) : JE X E m .sh (.BoolOp .And (a :: b :: rest) pos) (fBv (fAnd (fB fa) gb)) := by
  refine ⟨PEimp (pe_and ha.pe hb.pe) fun σ H Q h => ?_⟩
  obtain ⟨S, ρ, hm, hp⟩ := h
  refine ⟨S, ρ, hm, (PostW.bind (PostW.bind (Post.bind hp))).post fun d v S1 H1 s1 r1 h1 => ?_⟩
  cases d with
  | bl c =>
    cases r1
    refine ⟨c, rfl, ?_⟩
    have h1 := h1 S1 H1 (Step.refl s1.sub)
    cases c with
    | true =>
      refine ⟨S1, ρ, hm.step s1, ?_⟩
      show Post _ _ _ _ _ _ ((gb ρ).bind _) Q
      revert h1
      show PostW _ _ _ _ _ (gb ρ) _ → _
      cases gb ρ with
      | ok x => exact fun h1 => h1 S1 H1 (Step.refl s1.sub)
      | ex c fs => exact fun h1 => h1
      | er => exact fun h1 => h1
    | false =>
      have h2 := h1 S1 H1 (Step.refl s1.sub)
      exact Post.val h2 s1.sub (.bl false)
  | _ => exact h1.elim
/-- the last one -/
theorem je_last {op} (ha : JE X E m .sh a fa) : JE X E m .sh (.BoolOp op [a] pos) (fBv (fB fa)) := by
  refine ⟨PEimp (pe_one ha.pe) fun σ H Q h => ?_⟩
  obtain ⟨S, ρ, hm, hp⟩ := h
  refine ⟨S, ρ, hm, (PostW.bind (Post.bind hp)).post fun d v S1 H1 s1 r1 h1 => ?_⟩
  cases d with
  | bl c => exact Post.val (h1 S1 H1 (Step.refl s1.sub)) s1.sub r1
  | _ => exact h1.elim
theorem je_not (ha : JE X E m .sh a fa) : JE X E m .sh (.UnaryOp .Not a pos) (fBv (fNot (fB fa))) := by
  refine ⟨PEimp (pe_not ha.pe) fun σ H Q h => ?_⟩
  obtain ⟨S, ρ, hm, hp⟩ := h
  refine ⟨S, ρ, hm, (PostW.bind (PostW.bind (Post.bind hp))).post fun d v S1 H1 s1 r1 h1 => ?_⟩
  cases d with
  | bl c =>
    cases r1
    exact ⟨c, rfl, Post.val (h1 S1 H1 (Step.refl s1.sub) S1 H1 (Step.refl s1.sub)) s1.sub (.bl _)⟩
  | _ => exact h1.elim
end
end Da
namespace Da
open PySem PySem.Spec L2
def dI (c : Int → Int → Bool) (g : Int → Int → Int) : D → D → Res D
  | .int i, .int j => if c i j = true then .ok (.int (g i j)) else .er
  | _, _ => .er
def dP (p : Int → Int → Bool) : D → D → Res D
  | .int i, .int j => .ok (.bl (p i j))
  | _, _ => .er
def yes2 (_ _ : Int) : Bool := true
def mulOk (i j : Int) : Bool := stuck (i.natAbs.log2 + j.natAbs.log2 < 1000000)
theorem mulOk_yes {i j : Int} (h : i.natAbs.log2 + j.natAbs.log2 < 1000000) : mulOk i j = true := stuck_iff.mpr h
theorem mulOk_lt {i j : Int} (h : mulOk i j = true) : i.natAbs.log2 + j.natAbs.log2 < 1000000 := stuck_iff.mp h
def divOk (_ j : Int) : Bool := stuck (j ≠ 0 ∧ j.natAbs.log2 < 9000)
def modOk (_ j : Int) : Bool := decide (j ≠ 0)
def powOk (i j : Int) : Bool := stuck (0 ≤ j ∧ j ≤ 1000000 ∧ i.natAbs < 18446744073709551616)
section
variable {K : PySem.W.Frag} {mg : Str → Option Value} {E : XK} {S S' H H' : Hp}
theorem opd_I {C : Int → Int → Prop} {g : Int → Int → Int} {c : Int → Int → Bool} (hc : ∀ i j, c i j = true → C i j) : OpD K mg .sh (rI C fun i j => .int (g i j)) (dI c g) := by
  intro E S H x y dx dy Q hs rx ry h
  cases dx with
  | int i =>
    cases dy with
    | int j =>
      simp only [dI] at h
      split at h
      · rename_i hcc
        cases rx; cases ry
        exact ⟨i, j, rfl, rfl, hc i j hcc, h.val hs (.int _)⟩
      · exact h.elim
    | _ => exact h.elim
  | _ => exact h.elim
theorem opd_I0 {g : Int → Int → Int} : OpD K mg .sh (rI0 fun i j => .int (g i j)) (dI yes2 g) := by
  intro E S H x y dx dy Q hs rx ry h
  cases dx with
  | int i =>
    cases dy with
    | int j =>
      cases rx; cases ry
      exact ⟨i, j, rfl, rfl, Post.val h hs (.int _)⟩
    | _ => exact h.elim
  | _ => exact h.elim
theorem opd_P {p : Int → Int → Bool} : OpD K mg .sh (rI0 fun i j => .bl (p i j)) (dP p) := by
  intro E S H x y dx dy Q hs rx ry h
  cases dx with
  | int i =>
    cases dy with
    | int j =>
      cases rx; cases ry
      exact ⟨i, j, rfl, rfl, Post.val h hs (.bl _)⟩
    | _ => exact h.elim
  | _ => exact h.elim
end
section
variable {X : Cx}
def CDivX (_ j : Int) : Prop := j ≠ 0 ∧ j.natAbs.log2 < 9000
theorem op_fdivX : OpR X (binaryOp .FloorDiv) (rI CDivX fun i j => .int (i.fdiv j)) :=
  opI fun _ _ _ _ _ _ _ hc q => PyProof.Rows.floordiv_int hc.1 q (.inl (PyProof.noPylong_of_log2 hc.2))
end
section
variable {X : Cx} {E : WX} {m : Mds} {md : Md} {a b : Expr} {es : List Expr} {fa fb : Env → Res D} {pos : Pos}
def dSub := dI yes2 (fun i j => i - j)
def dMul := dI mulOk (fun i j => i * j)
def dDiv := dI divOk (fun i j => i.fdiv j)
def dMod := dI modOk (fun i j => i.fmod j)
def dPow := dI powOk (fun i j => i ^ j.toNat)
def dLt := dP (fun i j => decide (i < j))
def dLe := dP (fun i j => decide (i ≤ j))
def dGt := dP (fun i j => decide (j < i))
def dGe := dP (fun i j => decide (j ≤ i))
theorem je_sub (ha : JE X E m .sh a fa) (hb : JE X E m .sh b fb) : JE X E m .sh (.BinOp a .Sub b pos) (f2 dSub fa fb) := je_op op_sub opd_I0 ha hb
theorem je_mulI (ha : JE X E m .sh a fa) (hb : JE X E m .sh b fb) : JE X E m .sh (.BinOp a .Mult b pos) (f2 dMul fa fb) := je_op op_mulW (opd_I fun i j h => mulOk_lt h) ha hb
theorem je_div (ha : JE X E m .sh a fa) (hb : JE X E m .sh b fb) : JE X E m .sh (.BinOp a .FloorDiv b pos) (f2 dDiv fa fb) := je_op op_fdivX (opd_I fun i j h => stuck_iff.mp h) ha hb
theorem je_mod (ha : JE X E m .sh a fa) (hb : JE X E m .sh b fb) : JE X E m .sh (.BinOp a .Mod b pos) (f2 dMod fa fb) := je_op op_modN (opd_I fun i j h => of_decide_eq_true h) ha hb
theorem powOk_ok {i j : Int} (h : powOk i j = true) : CPow i j := by
  obtain ⟨h1, h2, h3⟩ := stuck_iff.mp h
  exact ⟨h1, h2, by
    show i.natAbs < 2 ^ 64
    omega⟩
theorem je_pow (ha : JE X E m .sh a fa) (hb : JE X E m .sh b fb) : JE X E m .sh (.BinOp a .Pow b pos) (f2 dPow fa fb) := je_op op_pow (opd_I fun i j h => powOk_ok h) ha hb
def dNeg : D → Res D
  | .int i => .ok (.int (-i))
  | _ => .er
theorem je_neg (ha : JE X E m .sh a fa) : JE X E m .sh (.UnaryOp .USub a pos) (f1 dNeg fa) := je_un un_neg (fun E S H x dx Q hs rx h => by
  cases dx with
  | int i =>
    cases rx
    exact ⟨i, rfl, Post.val h hs (.int _)⟩
  | _ => exact h.elim) ha
theorem jt_lt (ha : JE X E m .sh a fa) (hb : JE X E m .sh b fb) : JT X E m (.Compare a [.Lt] [b] pos) (fB (f2 dLt fa fb)) := jt_cmp op_lt opd_P ha hb (nomark _)
theorem jt_le (ha : JE X E m .sh a fa) (hb : JE X E m .sh b fb) : JT X E m (.Compare a [.LtE] [b] pos) (fB (f2 dLe fa fb)) := jt_cmp op_le opd_P ha hb (nomark _)
theorem jt_gt (ha : JE X E m .sh a fa) (hb : JE X E m .sh b fb) : JT X E m (.Compare a [.Gt] [b] pos) (fB (f2 dGt fa fb)) := jt_cmp op_gt opd_P ha hb (nomark _)
theorem jt_ge (ha : JE X E m .sh a fa) (hb : JE X E m .sh b fb) : JT X E m (.Compare a [.GtE] [b] pos) (fB (f2 dGe fa fb)) := jt_cmp op_ge opd_P ha hb (nomark _)
end
def szOk (n : Nat) : Bool := stuck (n ≤ 1000000)
theorem szOk_yes {n : Nat} (h : n ≤ 1000000) : szOk n = true := stuck_iff.mpr h
theorem szOk_le {n : Nat} (h : szOk n = true) : n ≤ 1000000 := stuck_iff.mp h
theorem szOk_ok {n : Nat} (h : szOk n = true) : n ≤ sizeLine := by
  have := szOk_le h
  rw [sizeLine_eq]; omega
def dAdd : D → D → Res D
  | .int i, .int j => .ok (.int (i + j))
  | .lst a, .lst b => if szOk (a.length + b.length) = true then .ok (.lst (a ++ b)) else .er
  | .tup a, .tup b => if szOk (a.length + b.length) = true then .ok (.tup (a ++ b)) else .er
  | .str a, .str b => if szOk (a.length + b.length) = true then .ok (.str (a ++ b)) else .er
  | _, _ => .er
def dAddL : D → D → Res D
  | .lst a, .lst b => if szOk (a.length + b.length) = true then .ok (.lst (a ++ b)) else .er
  | _, _ => .er
abbrev rStrAdd : R2 := fun x y H Q => ∃ i j, x = .str i ∧ y = .str j ∧ i.length + j.length ≤ sizeLine ∧ Q (.str (i ++ j)) H
def rAddAll (K : PySem.W.Frag) : R2 := fun x y H Q => ((rI0 fun i j => .int (i + j)) x y H Q ∨ rCat x y H Q) ∨ (rCatA K x y H Q ∨ rStrAdd x y H Q)
section
variable {K : PySem.W.Frag} {mg : Str → Option Value} {X : Cx} {E : WX} {m : Mds} {md : Md} {a b : Expr} {es : List Expr} {fa fb : Env → Res D} {pos : Pos}
theorem op_addAll : OpR X (binaryOp .Add) (rAddAll X.K) := OpR.or (OpR.or op_add op_cat) (OpR.or op_catA op_add_str)
theorem Post.of_if {md : Md} {E : XK} {S H : Hp} {r : Res D} {c : Bool} {Q : VK} (h : Post K mg E S H md (if c = true then r else .er) Q) : c = true ∧ Post K mg E S H md r Q := by
  split at h
  · rename_i hc; exact ⟨hc, h⟩
  · exact h.elim
theorem RepL.nil_iff {S : Hp} {vs : List V} {ds : List D} (r : RepL K mg S vs ds) : vs = [] ↔ ds = [] := by
  have := r.len
  constructor
  · intro h; subst h; exact List.eq_nil_of_length_eq_zero this.symm
  · intro h; subst h; exact List.eq_nil_of_length_eq_zero this
theorem catL {E : XK} {S H : Hp} {x y : V} {da db : List D} {Q : VK} (hmd : md = .sh ∨ md = .ow) (hs : Same S H) (rx : Rep K mg S x (.lst da)) (ry : Rep K mg S y (.lst db)) (h : Post K mg E S H md (if szOk (da.length + db.length) = true then .ok (.lst (da ++ db)) else .er) Q) : rCat x y H Q := by
  obtain ⟨hz, h⟩ := h.of_if
  obtain ⟨a, vs, rfl, ha, ra⟩ := rx.of_lst
  obtain ⟨b, ws, rfl, hb, rb⟩ := ry.of_lst
  exact ⟨a, b, vs, ws, rfl, rfl, hs _ _ ha, hs _ _ hb, by rw [ra.len, rb.len]; exact szOk_ok hz, fun p hp => h.list hmd hs (ra.append rb) hp⟩
theorem opd_add : OpD K mg .sh (rAddAll K) dAdd := by
  intro E S H x y dx dy Q hs rx ry h
  cases dx with
  | int i =>
    cases dy with
    | int j =>
      cases rx; cases ry
      exact .inl (.inl ⟨i, j, rfl, rfl, Post.val h hs (.int _)⟩)
    | _ => exact h.elim
  | str i =>
    cases dy with
    | str j =>
      obtain ⟨hz, h⟩ := Post.of_if h
      cases rx; cases ry
      exact .inr (.inr ⟨i, j, rfl, rfl, szOk_ok hz, Post.val h hs (.str _)⟩)
    | _ => exact h.elim
  | lst da =>
    cases dy with
    | lst db => exact .inl (.inr (catL (.inl rfl) hs rx ry h))
    | _ => exact h.elim
  | tup da =>
    cases dy with
    | tup db =>
      obtain ⟨hz, h⟩ := Post.of_if h
      obtain ⟨a, vs, rfl, ha, ra⟩ := rx.of_tup
      obtain ⟨b, ws, rfl, hb, rb⟩ := ry.of_tup
      refine .inr (.inl ⟨a, b, vs, ws, rfl, rfl, same_t hs ha, same_t hs hb, by rw [ra.len, rb.len]; exact szOk_ok hz, fun e => ?_, fun e1 e2 => ?_, fun _ _ p hp => h.tup hs (ra.append rb) hp⟩)
      · have e' := ra.nil_iff.mp e
        subst e'
        exact h.val hs ry
      · have e' := rb.nil_iff.mp e2
        subst e'
        rw [List.append_nil] at h
        exact h.val hs rx
    | _ => exact h.elim
  | _ => exact h.elim
theorem opd_addL : OpD K mg .ow (rAddAll K) dAddL := by
  intro E S H x y dx dy Q hs rx ry h
  cases dx with
  | lst da =>
    cases dy with
    | lst db => exact .inl (.inr (catL (.inr rfl) hs rx ry h))
    | _ => exact h.elim
  | _ => exact h.elim
theorem je_add (ha : JE X E m .sh a fa) (hb : JE X E m .sh b fb) : JE X E m .sh (.BinOp a .Add b pos) (f2 dAdd fa fb) := je_op op_addAll opd_add ha hb
theorem je_addL (ha : JE X E m .sh a fa) (hb : JE X E m .sh b fb) : JE X E m .ow (.BinOp a .Add b pos) (f2 dAddL fa fb) := je_op op_addAll opd_addL ha hb
end
def dIx : D → D → Res D
  | .lst xs, .int i => match atI xs i with
    | some d => .ok d
    | none => .er
  | .frl xs, .int i => match atI xs i with
    | some d => .ok d
    | none => .er
  | .tup xs, .int i => match atI xs i with
    | some d => .ok d
    | none => .er
  | .str x, .int i => if szOk x.length = true then (match atI x.cps.toList i with
    | some c => .ok (.str ⟨#[c]⟩)
    | none => .er) else .er
  | _, _ => .er
section
variable {K : PySem.W.Frag} {mg : Str → Option Value} {X : Cx} {E : WX} {m : Mds} {md : Md} {a b : Expr} {es : List Expr} {fa fb : Env → Res D} {pos : Pos}
theorem RepL.atI {S : Hp} {vs : List V} {ds : List D} {i : Int} {d : D} (r : RepL K mg S vs ds) (h : L2.atI ds i = some d) : ∃ v, L2.atI vs i = some v ∧ Rep K mg S v d := by
  unfold L2.atI at h ⊢
  rw [r.len]
  cases e : ixN ds.length i with
  | none => rw [e] at h; cases h
  | some j =>
    rw [e] at h
    exact r.get h
theorem opd_ix : OpD K mg .sh (rIx K) dIx := by
  intro E S H x y dx dy Q hs rx ry h
  cases dx with
  | lst xs =>
    cases dy with
    | int i =>
      cases ry
      simp only [dIx] at h
      split at h
      · rename_i d e
        obtain ⟨p, vs, rfl, hp, rv⟩ := rx.of_lst
        obtain ⟨v, ev, r⟩ := rv.atI e
        exact .inl ⟨p, vs, i, v, rfl, rfl, .inl (.inl (hs _ _ hp)), ev, h.val hs r⟩
      · exact h.elim
    | _ => exact h.elim
  | frl xs =>
    cases dy with
    | int i =>
      cases ry
      simp only [dIx] at h
      split at h
      · rename_i d e
        obtain ⟨p, vs, rfl, hp, rv⟩ := rx.of_frl
        obtain ⟨v, ev, r⟩ := rv.atI e
        exact .inl ⟨p, vs, i, v, rfl, rfl, same_l hs hp, ev, h.val hs r⟩
      · exact h.elim
    | _ => exact h.elim
  | tup xs =>
    cases dy with
    | int i =>
      cases ry
      simp only [dIx] at h
      split at h
      · rename_i d e
        obtain ⟨p, vs, rfl, hp, rv⟩ := rx.of_tup
        obtain ⟨v, ev, r⟩ := rv.atI e
        exact .inr (.inl ⟨p, vs, i, v, rfl, rfl, same_t hs hp, ev, h.val hs r⟩)
      · exact h.elim
    | _ => exact h.elim
  | str z =>
    cases dy with
    | int i =>
      cases ry
      simp only [dIx] at h
      obtain ⟨hz, h⟩ := Post.of_if h
      split at h
      · rename_i c e
        cases rx
        exact .inr (.inr ⟨z, i, c, rfl, rfl, szOk_ok hz, e, h.val hs (.str _)⟩)
      · exact h.elim
    | _ => exact h.elim
  | _ => exact h.elim
theorem je_item (ha : JE X E m .sh a fa) (hb : JE X E m .sh b fb) (hs : PlainIx b := by intro _ _; rfl) : JE X E m .sh (.Subscript a b pos) (f2 dIx fa fb) := je_ix ix_seq opd_ix ha hb hs
end
section
variable {K : PySem.W.Frag} {mg : Str → Option Value} {X : Cx} {E : WX} {m : Mds} {md : Md} {a b e : Expr} {es : List Expr} {fa fb : Env → Res D} {fs : Env → Res (List D)} {pos p : Pos} {x : Str} {id T : String} {r : List V → Hp → VK → Prop} {g : List D → Res D}
theorem call1 {K : PySem.W.Frag} {mg : Str → Option Value} (hr : CallD K mg md r g) {σ : L2.St} {H : Hp} {Q : VK} (h : tE K mg E m md (fOn g fs) σ H Q) : tCB r (tA K mg E m fs) σ H Q := by
  obtain ⟨S, ρ, hm, hp⟩ := h
  exact ⟨S, ρ, hm, (Post.bind hp).imp fun ds S1 H1 s1 h1 vs rs => hr _ S1 H1 vs ds Q s1.sub rs h1⟩
theorem je_callB (hc : CallR X (.builtin id) r) (hr : CallD X.K X.mg md r g) (hm : X.mg x = none) (ha : JA X E m (e :: es) fs) (hg : Gl X x := by rfl) (hv : bootBuiltins x = some (.builtin id) := by decide +kernel)
    (hn : x ≠ "__name__" := by decide) (hdb : (x == ("__debug__" : Str)) = false := by decide) (he : starEach (e :: es) X.env = (false, eval e X.env) :: starEach es X.env := by rfl) (hpl : (backTo pos (starEach es X.env)).any (·.1) = false := by rfl) :
    JE X E m md (.Call (.Name x p) (e :: es) [] pos) (fOn g fs) := ⟨PEimp (pe_callB hc hg hm hv ha.pa hn hdb he hpl) fun σ H Q h => call1 hr h⟩
theorem je_callTy (hc : CallR X (.type T) r) (hr : CallD X.K X.mg md r g) (hm : X.mg x = none) (ha : JA X E m (e :: es) fs) (hg : Gl X x := by rfl) (hv : bootBuiltins x = some (.type T) := by decide +kernel)
    (hn : x ≠ "__name__" := by decide) (hdb : (x == ("__debug__" : Str)) = false := by decide) (he : starEach (e :: es) X.env = (false, eval e X.env) :: starEach es X.env := by rfl) (hpl : (backTo pos (starEach es X.env)).any (·.1) = false := by rfl) :
    JE X E m md (.Call (.Name x p) (e :: es) [] pos) (fOn g fs) := ⟨PEimp (pe_callTy hc hg hm hv ha.pa hn hdb he hpl) fun σ H Q h => call1 hr h⟩
end
end Da
namespace Da
open PySem PySem.Spec L2
inductive Fl where
  | nx (ρ : Env) | rt (d : D) | bk (ρ : Env) | ct (ρ : Env) | xc (c : Str) (fs : List (Str × D)) (ρ : Env)
abbrev FS := Env → Res Fl
/-- an expression's end, in a statement -/
def lift {α : Type} (r : Res α) (ρ : Env) (k : α → Res Fl) : Res Fl := match r with
  | .ok a => k a
  | .ex c fs => .ok (.xc c fs ρ)
  | .er => .er
@[simp] theorem lift_ok {α : Type} (a : α) (ρ : Env) (k : α → Res Fl) : lift (.ok a) ρ k = k a := rfl
@[simp] theorem lift_ex {α : Type} (c : Str) (fs : List (Str × D)) (ρ : Env) (k : α → Res Fl) : lift (.ex c fs : Res α) ρ k = .ok (.xc c fs ρ) := rfl
@[simp] theorem lift_er {α : Type} (ρ : Env) (k : α → Res Fl) : lift (.er : Res α) ρ k = .er := rfl
section
variable {K : PySem.W.Frag} {mg : Str → Option Value} {m m1 m2 : Mds} {S0 H0 S S1 S' H H' H1 : Hp} {σ σ' : L2.St} {ρ : Env} {F : Nat → List Addr}
/-- the state of a body that was entered with the view S0 of H0 -/
def StF (K : PySem.W.Frag) (mg : Str → Option Value) (m : Mds) (S0 H0 S : Hp) (F : Nat → List Addr) (σ : L2.St) (ρ : Env) (H : Hp) : Prop :=
  Step S0 H0 S H ∧ EnvF K mg m F S H σ ρ ∧ ∀ i d, ρ[i]? = some (some d) → ∀ a, a ∈ F i → H0 a = none
def StM (K : PySem.W.Frag) (mg : Str → Option Value) (m : Mds) (S0 H0 : Hp) (σ : L2.St) (ρ : Env) (H : Hp) : Prop := ∃ S F, StF K mg m S0 H0 S F σ ρ H
theorem StF.envM (h : StF K mg m S0 H0 S F σ ρ H) : EnvM K mg m S H σ ρ := ⟨h.1.sub, F, h.2.1⟩
theorem StF.step (h : StF K mg m S0 H0 S F σ ρ H) (s : Step S H S' H') : StF K mg m S0 H0 S' F σ ρ H' := ⟨h.1.trans s, h.2.1.step s, h.2.2⟩
/-- the entry moved to the present view, and back -/
theorem Step.fwd (h : Step S0 H0 S H) : Step S H0 S H := ⟨h.hh, Same.refl _, h.sub, fun _ x => .inl x⟩
theorem Step.back (h : Step S0 H0 S H) (k : Step S H0 S' H') : Step S0 H0 S' H' := ⟨k.hh, h.ss.trans k.ss, k.sub, fun a x => by
  rcases k.new a x with z | z
  · exact h.new a z
  · exact .inr z⟩
/-- a value handed out of a body -/
def RetOk (K : PySem.W.Frag) (mg : Str → Option Value) (S0 H0 : Hp) (md : Md) (d : D) (v : V) (H : Hp) : Prop := ∃ S fp, Step S0 H0 S H ∧ OwnAt K mg S H fp v d md ∧ fp.Nodup ∧ ∀ a, a ∈ fp → H0 a = none
/-- the ends of the loop around, what a return hands out -/
structure Lp where
  mb : Mds := []
  mc : Mds := []
  md : Md := .sh
/-- all slots shared -/
def SPost (K : PySem.W.Frag) (mg : Str → Option Value) (E : WX) (L : Lp) (S0 H0 : Hp) (m' : Mds) (o : Res Fl) (Dn : Ends) : Prop := match o with
  | .ok (.nx ρ) => ∀ σ H, StM K mg m' S0 H0 σ ρ H → Dn.nx σ H
  | .ok (.rt d) => ∀ v H, RetOk K mg S0 H0 L.md d v H → Dn.rt v H
  | .ok (.bk ρ) => ∀ σ H, StM K mg L.mb S0 H0 σ ρ H → Dn.bk σ H
  | .ok (.ct ρ) => ∀ σ H, StM K mg L.mc S0 H0 σ ρ H → Dn.ct σ H
  | .ok (.xc c fs ρ) => ∀ σ S F H cls dd, StF K mg [] S0 H0 S F σ ρ H → ExcAt K mg S H cls dd c fs → E cls dd σ H
  | .ex _ _ => False
  | .er => False
def tS (K : PySem.W.Frag) (mg : Str → Option Value) (E : WX) (L : Lp) (m m' : Mds) (F : FS) : TS := fun Dn σ H => ∃ S0 H0 ρ, StM K mg m S0 H0 σ ρ H ∧ SPost K mg E L S0 H0 m' (F ρ) Dn
/-- what lies at the addresses A is taken into the view -/
noncomputable def take (S H : Hp) (A : Addr → Prop) : Hp := open Classical in fun a => if A a then H a else S a
theorem take_in {A : Addr → Prop} {a : Addr} (h : A a) : take S H A a = H a := by unfold take; rw [if_pos h]
theorem take_out {A : Addr → Prop} {a : Addr} (h : ¬ A a) : take S H A a = S a := by unfold take; rw [if_neg h]
theorem take_same {A : Addr → Prop} (h : Same S H) (ho : ∀ a, A a → S a = none) : Same S (take S H A) := fun a o e => by
  rw [take_out (fun z => by rw [ho a z] at e; cases e)]
  exact e
theorem take_sub {A : Addr → Prop} (h : Same S H) : Same (take S H A) H := fun a o e => by
  by_cases z : A a
  · rw [take_in z] at e; exact e
  · rw [take_out z] at e; exact h a o e
theorem OwnTr.shared {A : Addr → Prop} (hs : Same S H) (ho : ∀ a, A a → S a = none) : ∀ {n : Nat} {fp : List Addr} {v : V} {d : D}, OwnTr K mg S H n fp v d → (∀ a, a ∈ fp → A a) → Rep K mg (take S H A) v d
  | 0, _, _, _, h, _ => h.1.mono (take_same (A := A) hs ho)
  | n + 1, _, _, _, h, hA => by
    obtain ⟨p, vs, ds, fps, rfl, rfl, e3, e4, e5, e6, e7, e8⟩ := h
    refine Rep.lstL (vs := vs) (by rw [take_in (hA p (by rw [e3]; exact List.mem_cons_self))]; exact e5) ⟨e6, fun i v d a b => ?_⟩
    have hl := (List.getElem?_eq_some_iff.mp b).1
    have hj := List.getElem?_eq_getElem (l := fps) (i := i) (by omega)
    exact (e8 i v d _ a b hj).shared hs ho fun a ha => hA a (by rw [e3]; exact List.mem_cons_of_mem _ (flat_mem hj ha))
theorem OwnTr.stays {A : Addr → Prop} (hs : Same S H) (ho : ∀ a, A a → S a = none) : ∀ {n : Nat} {fp : List Addr} {v : V} {d : D}, OwnTr K mg S H n fp v d → (∀ a, a ∈ fp → ¬ A a) → OwnTr K mg (take S H A) H n fp v d
  | 0, _, _, _, h, _ => ⟨h.1.mono (take_same (A := A) hs ho), h.2⟩
  | n + 1, _, _, _, h, hA => by
    obtain ⟨p, vs, ds, fps, e1, e2, e3, e4, e5, e6, e7, e8⟩ := h
    exact ⟨p, vs, ds, fps, e1, e2, e3, by rw [take_out (hA p (by rw [e3]; exact List.mem_cons_self))]; exact e4, e5, e6, e7, fun j w e f x y z => (e8 j w e f x y z).stays hs ho fun a ha => hA a (by rw [e3]; exact List.mem_cons_of_mem _ (flat_mem z ha))⟩
theorem OwnTh.shared {A : Addr → Prop} {fp : List Addr} {v : V} {d : D} {n k : Nat} {q : Addr} (hs : Same S H) (ho : ∀ a, A a → S a = none) (h : OwnTh K mg S H n k q fp v d) (hA : ∀ a, a ∈ fp → A a) : Rep K mg (take S H A) v d := by
  obtain ⟨p, vs, ds, fps, rfl, rfl, e3, e4, e5, e6, e7, h1, h2, h3, e8⟩ := h
  refine Rep.lstL (vs := vs) (by rw [take_in (hA p (by rw [e3]; exact List.mem_cons_self))]; exact e5) ⟨e6, fun i v d a b => ?_⟩
  by_cases hik : i = k
  · subst hik
    rw [h1] at a; rw [h2] at b
    cases a; cases b
    exact .exc
  · have hl := (List.getElem?_eq_some_iff.mp b).1
    have hj := List.getElem?_eq_getElem (l := fps) (i := i) (by omega)
    exact (e8 i v d _ hik a b hj).shared hs ho fun a ha => hA a (by rw [e3]; exact List.mem_cons_of_mem _ (flat_mem hj ha))
theorem OwnTh.stays {A : Addr → Prop} {fp : List Addr} {v : V} {d : D} {n k : Nat} {q : Addr} (hs : Same S H) (ho : ∀ a, A a → S a = none) (h : OwnTh K mg S H n k q fp v d) (hA : ∀ a, a ∈ fp → ¬ A a) : OwnTh K mg (take S H A) H n k q fp v d := by
  obtain ⟨p, vs, ds, fps, e1, e2, e3, e4, e5, e6, e7, h1, h2, h3, e8⟩ := h
  exact ⟨p, vs, ds, fps, e1, e2, e3, by rw [take_out (hA p (by rw [e3]; exact List.mem_cons_self))]; exact e4, e5, e6, e7, h1, h2, h3, fun j w e f i x y z => (e8 j w e f i x y z).stays hs ho fun a ha => hA a (by rw [e3]; exact List.mem_cons_of_mem _ (flat_mem z ha))⟩
theorem OwnAt.shared {A : Addr → Prop} {fp : List Addr} {v : V} {d : D} {md : Md} (h : OwnAt K mg S H fp v d md) (hs : Same S H) (ho : ∀ a, A a → S a = none) (hA : ∀ a, a ∈ fp → A a) : Rep K mg (take S H A) v d := by
  have ss := take_same (A := A) hs ho
  cases md with
  | owq q0 =>
    obtain ⟨e0, p, vs, ds, rfl, rfl, e3, e4, e5, e6⟩ := h
    exact Rep.lstL (by rw [take_in (hA p (by rw [e3]; exact List.mem_cons_self))]; exact e5) (e6.mono ss)
  | tr n b at_ =>
    cases b with
    | none => exact h.2.shared hs ho hA
    | some kq => exact h.2.shared hs ho hA
  | ex a0 b0 c0 =>
    obtain ⟨c, vfs, ds, e1, e2, e3, e4, e5, e6⟩ := h
    rw [e1, e2]; exact .exc
  | sh => exact h.1.mono ss
  | ow =>
    obtain ⟨p, vs, ds, rfl, rfl, e3, e4, e5, e6⟩ := h
    exact Rep.lstL (by rw [take_in (hA p (by rw [e3]; exact List.mem_cons_self))]; exact e5) (e6.mono ss)
  | ow2 =>
    obtain ⟨p, ps, dss, rfl, rfl, e3, e4, e5, e6, e7⟩ := h
    refine Rep.lstL (vs := ps.map V.ref) (by rw [take_in (hA p (by rw [e3]; exact List.mem_cons_self))]; exact e5) ⟨by rw [List.length_map, List.length_map, e6], fun i v d a b => ?_⟩
    rw [List.getElem?_map] at a b
    cases ea : ps[i]? with
    | none => rw [ea] at a; cases a
    | some q =>
      cases eb : dss[i]? with
      | none => rw [eb] at b; cases b
      | some ds =>
        rw [ea] at a; rw [eb] at b
        cases a; cases b
        obtain ⟨z1, vs, z2, z3⟩ := e7 i q ds ea eb
        exact Rep.lstL (by rw [take_in (hA q (by rw [e3]; exact List.mem_cons_of_mem _ (List.mem_of_getElem? ea)))]; exact z2) (z3.mono ss)
  | dk =>
    obtain ⟨p, kvs, ds, rfl, rfl, e3, e4, e5, e6⟩ := h
    have e6' := e6.mono ss
    refine Rep.dic (.inl (by rw [take_in (hA p (by rw [e3]; exact List.mem_cons_self))]; exact e5)) (by have := e6.len; rw [List.length_map] at this; exact this) fun i q d a b => ?_
    exact e6'.at_ i q.2 d (by rw [List.getElem?_map, a]; rfl) b
  | dt =>
    obtain ⟨p, kvs, ds, rfl, rfl, e3, e4, e5, e6⟩ := h
    have e6' := e6.mono ss
    refine Rep.dit (by rw [take_in (hA p (by rw [e3]; exact List.mem_cons_self))]; exact e5) (by have := e6.len; rw [List.length_map] at this; exact this) fun i q d a b => ?_
    exact e6'.at_ i q.2 d (by rw [List.getElem?_map, a]; rfl) b
  | ob p =>
    obtain ⟨dx, C, c, fs, ds, rfl, rfl, e3, e4, e5, e6, e7, e8, e9⟩ := h
    have e9' := e9.mono ss
    refine Rep.obj (by rw [take_in (hA p (by rw [e3]; exact List.mem_cons_self))]; exact e7) e6 (by have := e9.len; rw [List.length_map] at this; exact this) fun i q d a b => ?_
    exact e9'.at_ i q.2 d (by rw [List.getElem?_map, a]; rfl) b
/-- an owner whose addresses are not taken stays -/
theorem OwnAt.stays {A : Addr → Prop} {fp : List Addr} {v : V} {d : D} {md : Md} (h : OwnAt K mg S H fp v d md) (hs : Same S H) (ho : ∀ a, A a → S a = none) (hA : ∀ a, a ∈ fp → ¬ A a) : OwnAt K mg (take S H A) H fp v d md := by
  have ss := take_same (A := A) hs ho
  cases md with
  | owq q0 =>
    obtain ⟨e0, p, vs, ds, e1, e2, e3, e4, e5, e6⟩ := h
    exact ⟨e0, p, vs, ds, e1, e2, e3, by rw [take_out (hA p (by rw [e3]; exact List.mem_cons_self))]; exact e4, e5, e6.mono ss⟩
  | tr n b at_ =>
    cases b with
    | none => exact ⟨h.1, h.2.stays hs ho hA⟩
    | some kq => exact ⟨h.1, h.2.stays hs ho hA⟩
  | ex a0 b0 c0 =>
    obtain ⟨c, vfs, ds, e1, e2, e3, e4, e5, e6⟩ := h
    refine ⟨c, vfs, ds, e1, e2, e3, e4, e5.imp id fun ⟨dx, y1, y2⟩ => ⟨dx, y1, ss _ _ y2⟩, e6.mono (ss)⟩
  | sh => exact ⟨h.1.mono ss, h.2⟩
  | ow =>
    obtain ⟨p, vs, ds, e1, e2, e3, e4, e5, e6⟩ := h
    exact ⟨p, vs, ds, e1, e2, e3, by rw [take_out (hA p (by rw [e3]; exact List.mem_cons_self))]; exact e4, e5, e6.mono ss⟩
  | ow2 =>
    obtain ⟨p, ps, dss, e1, e2, e3, e4, e5, e6, e7⟩ := h
    refine ⟨p, ps, dss, e1, e2, e3, by rw [take_out (hA p (by rw [e3]; exact List.mem_cons_self))]; exact e4, e5, e6, fun j q ds x y => ?_⟩
    obtain ⟨z1, vs, z2, z3⟩ := e7 j q ds x y
    exact ⟨by rw [take_out (hA q (by rw [e3]; exact List.mem_cons_of_mem _ (List.mem_of_getElem? x)))]; exact z1, vs, z2, z3.mono ss⟩
  | dk =>
    obtain ⟨p, vs, ds, e1, e2, e3, e4, e5, e6⟩ := h
    exact ⟨p, vs, ds, e1, e2, e3, by rw [take_out (hA p (by rw [e3]; exact List.mem_cons_self))]; exact e4, e5, e6.mono ss⟩
  | dt =>
    obtain ⟨p, vs, ds, e1, e2, e3, e4, e5, e6⟩ := h
    exact ⟨p, vs, ds, e1, e2, e3, by rw [take_out (hA p (by rw [e3]; exact List.mem_cons_self))]; exact e4, e5, e6.mono ss⟩
  | ob p =>
    obtain ⟨dx, C, c, fs, ds, e1, e2, e3, e4, e5, e6, e7, e8, e9⟩ := h
    exact ⟨dx, C, c, fs, ds, e1, e2, e3, by rw [take_out (hA p (by rw [e3]; exact List.mem_cons_self))]; exact e4, by rw [take_out (hA dx (by rw [e3]; exact List.mem_cons_of_mem _ List.mem_cons_self))]; exact e5, e6, e7, e8, e9.mono ss⟩
/-- m1 has no more of one's own than m -/
def Weak (m m1 : Mds) : Prop := ∀ i, mdAt m1 i = mdAt m i ∨ mdAt m1 i = .sh
theorem mdAt_rep {n i : Nat} : mdAt (List.replicate n .sh) i = .sh := by
  unfold mdAt
  rw [List.getD_eq_getElem?_getD, List.getElem?_replicate]
  split <;> rfl
theorem weak_sh {m : Mds} (n : Nat) : Weak m (List.replicate n .sh) := fun i => .inr mdAt_rep
theorem Weak.nil (m : Mds) : Weak m [] := fun i => .inr (by unfold mdAt; simp)
theorem Weak.refl (m : Mds) : Weak m m := fun i => .inl rfl
theorem Weak.of : ∀ {m m1 : Mds}, (m.length = m1.length ∧ (m.zip m1).all (fun p => decide (p.2 = p.1) || decide (p.2 = .sh)) = true) → Weak m m1 := by
  intro m m1 h i
  obtain ⟨hl, h⟩ := h
  unfold mdAt
  by_cases hi : i < m.length
  · have hi1 : i < m1.length := by omega
    have := List.all_eq_true.mp h (m[i], m1[i]) (by
      refine List.mem_iff_getElem.mpr ⟨i, by rw [List.length_zip]; omega, ?_⟩
      rw [List.getElem_zip])
    rw [List.getD_eq_getElem?_getD, List.getD_eq_getElem?_getD, List.getElem?_eq_getElem hi, List.getElem?_eq_getElem hi1]
    rcases Bool.or_eq_true_iff.mp this with z | z
    · exact .inl (of_decide_eq_true z)
    · exact .inr (of_decide_eq_true z)
  · refine .inr ?_
    rw [List.getD_eq_getElem?_getD, List.getElem?_eq_none_iff.mpr (by omega)]
    rfl
theorem Weak.cons {x : Md} (w : Weak m m1) : Weak (x :: m) (x :: m1) := fun i => match i with
  | 0 => .inl rfl
  | i + 1 => w i
theorem Weak.consSh {x : Md} (w : Weak m m1) : Weak (x :: m) (.sh :: m1) := fun i => match i with
  | 0 => .inr rfl
  | i + 1 => w i
theorem StF.weakX (w : Weak m m1) (h : StF K mg m S0 H0 S F σ ρ H) : ∃ S' F', StF K mg m1 S0 H0 S' F' σ ρ H ∧ Same S S' ∧ ∀ a, S' a ≠ none → S a ≠ none ∨ ∃ i d, ρ[i]? = some (some d) ∧ a ∈ F i := by
  obtain ⟨st, e, nw⟩ := h
  let A : Addr → Prop := fun a => ∃ i d, ρ[i]? = some (some d) ∧ mdAt m1 i = .sh ∧ a ∈ F i
  have ho : ∀ a, A a → S a = none := fun a ⟨i, d, e1, _, e3⟩ => by
    obtain ⟨v, _, o⟩ := e.at_ i d e1
    exact (o.out e3).1
  let F' : Nat → List Addr := fun i => if mdAt m1 i = .sh then [] else F i
  refine ⟨take S H A, F', ⟨⟨st.hh, st.ss.trans (take_same st.sub ho), take_sub st.sub, fun a x => ?_⟩, ⟨e.len, fun i d e1 => ?_, fun i d e1 => ?_, fun i j d d' hij e1 e2 a ha => ?_⟩, fun i d e1 a ha => ?_⟩, take_same st.sub ho, fun a x => ?_⟩
  · by_cases z : A a
    · obtain ⟨i, d, e1, _, e3⟩ := z
      exact .inr (nw i d e1 a e3)
    · rw [take_out z] at x
      exact st.new a x
  · obtain ⟨v, e2, o⟩ := e.at_ i d e1
    refine ⟨v, e2, ?_⟩
    by_cases hsh : mdAt m1 i = .sh
    · rw [hsh]
      refine ⟨o.shared st.sub ho fun a ha => ⟨i, d, e1, hsh, ha⟩, ?_⟩
      show (if mdAt m1 i = .sh then [] else F i) = []
      rw [if_pos hsh]
    · rcases w i with z | z
      · rw [z]
        have : F' i = F i := if_neg hsh
        rw [this]
        refine o.stays st.sub ho fun a ha ⟨j, d', e1', e3', e4'⟩ => ?_
        by_cases hij : i = j
        · subst hij; exact hsh e3'
        · exact e.apart i j d d' hij e1 e1' a ha e4'
      · exact absurd z hsh
  · show (if mdAt m1 i = .sh then [] else F i).Nodup
    split
    · exact List.nodup_nil
    · exact e.nd i d e1
  · have ha' : a ∈ (if mdAt m1 i = .sh then [] else F i) := ha
    show a ∉ (if mdAt m1 j = .sh then [] else F j)
    split at ha'
    · cases ha'
    · split
      · exact fun z => nomatch z
      · exact e.apart i j d d' hij e1 e2 a ha'
  · have ha' : a ∈ (if mdAt m1 i = .sh then [] else F i) := ha
    split at ha'
    · cases ha'
    · exact nw i d e1 a ha'
  · by_cases z : A a
    · obtain ⟨i, d, e1, _, e3⟩ := z
      exact .inr ⟨i, d, e1, e3⟩
    · rw [take_out z] at x
      exact .inl x
theorem StF.weak (w : Weak m m1) (h : StF K mg m S0 H0 S F σ ρ H) : ∃ S' F', StF K mg m1 S0 H0 S' F' σ ρ H ∧ Same S S' := by
  obtain ⟨S', F', a, b, _⟩ := h.weakX w
  exact ⟨S', F', a, b⟩
theorem StM.weak (w : Weak m m1) (h : StM K mg m S0 H0 σ ρ H) : StM K mg m1 S0 H0 σ ρ H := by
  obtain ⟨S, F, h⟩ := h
  obtain ⟨S', F', h', _⟩ := h.weak w
  exact ⟨S', F', h'⟩
def F_set (F : Nat → List Addr) (i : Nat) (fp : List Addr) : Nat → List Addr := fun j => if j = i then fp else F j
theorem F_at {i : Nat} {fp : List Addr} : F_set F i fp i = fp := if_pos rfl
theorem F_off {i j : Nat} {fp : List Addr} (h : j ≠ i) : F_set F i fp j = F j := if_neg h
theorem mdAt_set {i j : Nat} {md : Md} (hi : i < m.length) : mdAt (m.set i md) j = if j = i then md else mdAt m j := by
  unfold mdAt
  rw [List.getD_eq_getElem?_getD, List.getElem?_set]
  by_cases h : j = i
  · rw [if_pos h.symm, if_pos h, if_pos hi]
    rfl
  · rw [if_neg (fun z => h z.symm), if_neg h, List.getD_eq_getElem?_getD]
theorem StF.set {i : Nat} {d : D} {v : V} {md : Md} {fp : List Addr} (h : StF K mg m S0 H0 S F σ ρ H) (hi : i < m.length) (o : OwnAt K mg S H fp v d md) (hn : fp.Nodup) (hf : ∀ a, a ∈ fp → H0 a = none)
    (hd : ∀ j e, j ≠ i → ρ[j]? = some (some e) → ∀ a, a ∈ F j → a ∉ fp) : StF K mg (m.set i md) S0 H0 S (F_set F i fp) (σ.set i (some v)) (ρ.set i (some d)) H := by
  obtain ⟨st, e, nw⟩ := h
  have key : ∀ j d', (ρ.set i (some d))[j]? = some (some d') → (j = i ∧ d' = d ∧ i < ρ.length) ∨ (j ≠ i ∧ ρ[j]? = some (some d')) := fun j d' ej => by
    by_cases hj : j = i
    · subst hj
      rw [List.getElem?_set, if_pos rfl] at ej
      split at ej
      · rename_i hl
        have : d = d' := by injection ej with z; injection z
        exact .inl ⟨rfl, this.symm, hl⟩
      · cases ej
    · rw [List.getElem?_set_ne (Ne.symm hj)] at ej
      exact .inr ⟨hj, ej⟩
  refine ⟨st, ⟨by rw [List.length_set, List.length_set]; exact e.len, fun j d' ej => ?_, fun j d' ej => ?_, fun j k d1 d2 hjk e1 e2 a ha => ?_⟩, fun j d' ej a ha => ?_⟩
  · rcases key j d' ej with ⟨rfl, rfl, hl⟩ | ⟨hj, ej'⟩
    · refine ⟨v, ?_, ?_⟩
      · rw [List.getElem?_set_self (by rw [← e.len]; exact hl)]
      · rw [mdAt_set hi, if_pos rfl, F_at]
        exact o
    · obtain ⟨w, e1, o1⟩ := e.at_ j d' ej'
      refine ⟨w, by rw [List.getElem?_set_ne (Ne.symm hj)]; exact e1, ?_⟩
      rw [mdAt_set hi, if_neg hj, F_off hj]
      exact o1
  · rcases key j d' ej with ⟨rfl, rfl, hl⟩ | ⟨hj, ej'⟩
    · rw [F_at]; exact hn
    · rw [F_off hj]; exact e.nd j d' ej'
  · rcases key j d1 e1 with ⟨rfl, rfl, hl⟩ | ⟨hj, ej⟩
    · rw [F_at] at ha
      rcases key k d2 e2 with ⟨z, _, _⟩ | ⟨hk, ek⟩
      · exact absurd z.symm hjk
      · rw [F_off hk]
        exact fun z => hd k d2 hk ek a z ha
    · rw [F_off hj] at ha
      rcases key k d2 e2 with ⟨rfl, _, _⟩ | ⟨hk, ek⟩
      · rw [F_at]
        exact hd j d1 hj ej a ha
      · rw [F_off hk]
        exact e.apart j k d1 d2 hjk ej ek a ha
  · rcases key j d' ej with ⟨rfl, rfl, hl⟩ | ⟨hj, ej'⟩
    · rw [F_at] at ha; exact hf a ha
    · rw [F_off hj] at ha; exact nw j d' ej' a ha
end
end Da
namespace Da
open PySem PySem.Spec L2
structure JS (X : Cx) (E : WX) (L : Lp) (m m' : Mds) (st : Stmt) (F : FS) : Prop where
  ps : PS X st (tS X.K X.mg E L m m' F)
structure JSs (X : Cx) (E : WX) (L : Lp) (m m' : Mds) (st : List Stmt) (F : FS) : Prop where
  ps : PSs X st (tS X.K X.mg E L m m' F)
def fNext : FS := fun ρ => .ok (.nx ρ)
def fSeq (F G : FS) : FS := fun ρ => match F ρ with
  | .ok (.nx ρ') => G ρ'
  | o => o
def fSet (i : Nat) (f : Env → Res D) : FS := fun ρ => lift (f ρ) ρ fun d => .ok (.nx (ρ.set i (some d)))
def fRet (f : Env → Res D) : FS := fun ρ => lift (f ρ) ρ fun d => .ok (.rt d)
def fRetN : FS := fun _ => .ok (.rt .non)
def fIfS (c : Env → Res Bool) (F G : FS) : FS := fun ρ => lift (c ρ) ρ fun b => if b = true then F ρ else G ρ
def fDrop (f : Env → Res D) : FS := fun ρ => lift (f ρ) ρ fun _ => .ok (.nx ρ)
def fBrk : FS := fun ρ => .ok (.bk ρ)
def fCnt : FS := fun ρ => .ok (.ct ρ)
section
variable {K : PySem.W.Frag} {mg : Str → Option Value} {m m1 m2 : Mds} {S0 H0 S S1 S' H H' H1 : Hp} {σ σ' : L2.St} {ρ : Env} {F : Nat → List Addr} {E : WX} {L : Lp} {Dn : Ends} {α : Type}
/-- an expression in a statement -/
theorem lift_post {r : Res α} {k : α → Res Fl} (h : StF K mg m S0 H0 S F σ ρ H) (p : SPost K mg E L S0 H0 m2 (lift r ρ k) Dn) : PostW K mg (WE E σ) S H r fun a S1 H1 => SPost K mg E L S0 H0 m2 (k a) Dn := by
  cases r with
  | ok a => exact fun S1 H1 s1 => p
  | ex c fs =>
    intro S1 H1 cls dd s1 x
    obtain ⟨S2, F2, h2, ss⟩ := (h.step s1).weak (Weak.nil m)
    refine p σ S2 F2 H1 cls dd h2 ⟨x.1, ?_⟩
    rcases x.2 with z | ⟨a, vfs, e1, e2, e3, e4⟩
    · exact .inl z
    · exact .inr ⟨a, vfs, e1, ss _ _ e2, e3, e4.mono ss⟩
  | er => exact p.elim
theorem StF.stM (h : StF K mg m S0 H0 S F σ ρ H) : StM K mg m S0 H0 σ ρ H := ⟨S, F, h⟩
/-- what is handed out of a pure expression -/
theorem RetOk.of {md : Md} {fp : List Addr} {v : V} {d : D} (st : Step S0 H0 S H) (s : Step S H S1 H1) (o : OwnAt K mg S1 H1 fp v d md) (hn : fp.Nodup) (hf : ∀ a, a ∈ fp → H a = none) : RetOk K mg S0 H0 md d v H1 :=
  ⟨S1, fp, st.trans s, o, hn, fun a ha => st.hh.free (hf a ha)⟩
end
section
variable {X : Cx} {E : WX} {L : Lp} {m m1 m2 m' : Mds} {md : Md} {st : Stmt} {sts rest : List Stmt} {e a b : Expr} {f fa fb : Env → Res D} {c : Expr} {g : Env → Res Bool} {F G : FS} {pos : Pos} {x : Str}
theorem PSsimp {t t' : TS} (h : PSs X sts t) (k : ∀ D σ H, t' D σ H → t D σ H) : PSs X sts t' := ⟨fun pins s σ H D I q => h.run pins s σ H D I (k D σ H q)⟩
theorem PSimp {t t' : TS} (h : PS X st t) (k : ∀ D σ H, t' D σ H → t D σ H) : PS X st t' := ⟨fun pins s σ H D I q => h.run pins s σ H D I (k D σ H q)⟩
theorem js_nil : JSs X E L m m [] fNext := ⟨PSsimp pss_nil fun D σ H h => by
  obtain ⟨S0, H0, ρ, st, p⟩ := h
  exact p σ H st⟩
theorem seq_ok {K : PySem.W.Frag} {mg : Str → Option Value} {D : Ends} {σ : L2.St} {H : Hp} (h : tS K mg E L m m2 (fSeq F G) D σ H) : tSeq (tS K mg E L m m1 F) (tS K mg E L m1 m2 G) D σ H := by
  obtain ⟨S0, H0, ρ, st, p⟩ := h
  refine ⟨S0, H0, ρ, st, ?_⟩
  unfold fSeq at p
  cases h : F ρ with
  | ok o =>
    rw [h] at p
    cases o with
    | nx ρ' => exact fun σ' H' st' => ⟨S0, H0, ρ', st', p⟩
    | rt d => exact p
    | bk ρ' => exact p
    | ct ρ' => exact p
    | xc c fs ρ' => exact p
  | ex c fs => rw [h] at p; exact p
  | er => rw [h] at p; exact p
theorem js_cons (h1 : JS X E L m m1 st F) (h2 : JSs X E L m1 m2 rest G) : JSs X E L m m2 (st :: rest) (fSeq F G) := ⟨PSsimp (pss_cons h1.ps h2.ps) fun D σ H h => seq_ok h⟩
theorem js_one (h1 : JS X E L m m1 st F) : JSs X E L m m1 [st] F := ⟨pss_one h1.ps⟩
theorem js_weak1 (h : JS X E L m1 m2 st F) (w : Weak m m1 := by first | exact Weak.of (by decide) | exact weak_sh _ | (repeat (first | exact Weak.refl _ | exact weak_sh _ | apply Weak.cons | apply Weak.consSh))) : JS X E L m m2 st F := ⟨PSimp h.ps fun D σ H q => by
  obtain ⟨S0, H0, ρ, st, p⟩ := q
  exact ⟨S0, H0, ρ, st.weak w, p⟩⟩
theorem SPost.weak {K : PySem.W.Frag} {mg : Str → Option Value} {S0 H0 : Hp} {o : Res Fl} {Dn : Ends} (w : Weak m1 m2) (p : SPost K mg E L S0 H0 m2 o Dn) : SPost K mg E L S0 H0 m1 o Dn := by
  cases o with
  | ok o =>
    cases o with
    | nx ρ' => exact fun σ' H' st' => p σ' H' (st'.weak w)
    | rt d => exact p
    | bk ρ' => exact p
    | ct ρ' => exact p
    | xc c fs ρ' => exact p
  | ex c fs => exact p
  | er => exact p
/-- .. behind a block -/
theorem js_end (h : JSs X E L m m1 sts F) (w : Weak m1 m2 := by first | exact Weak.of (by decide) | exact weak_sh _ | (repeat (first | exact Weak.refl _ | exact weak_sh _ | apply Weak.cons | apply Weak.consSh))) : JSs X E L m m2 sts F := ⟨PSsimp h.ps fun D σ H q => by
  obtain ⟨S0, H0, ρ, st, p⟩ := q
  exact ⟨S0, H0, ρ, st, p.weak w⟩⟩
theorem js_set (i : Nat) {pos' : Pos} (he : JE X E m md e f) (hN : X.N.Nodup) (hl : i < m.length := by first | decide | simp) (hi : X.N[i]? = some x := by rfl) (hx : Loc X.env.scope x := by first | exact Or.inl rfl | exact Or.inr rfl)
    (hs : swapsWith e (some (.Name x pos')) pos.line X.env = pure false := by rfl) (hf : X.fn x = true ∨ X.env.scope.names.lookup x = some .local := by first | exact .inl rfl | exact .inr rfl) :
    JS X E L m (m.set i md) (.Assign [.Name x pos'] e pos) (fSet i f) := by
  refine ⟨PSimp (ps_set hN hi hx he.pe hs hf) fun D σ H h => ?_⟩
  obtain ⟨S0, H0, ρ, ⟨S, Fp, st⟩, p⟩ := h
  refine ⟨S, ρ, st.envM, (lift_post st p).postM fun d v S1 H1 fp s1 o hn hf k => ?_⟩
  refine k _ _ (StF.stM ((st.step s1).set hl o hn (fun a ha => st.1.hh.free (hf a ha)) fun j e' hj ej a ha z => ?_))
  obtain ⟨w, _, o'⟩ := st.2.1.at_ j e' ej
  obtain ⟨_, u, hu⟩ := o'.out ha
  rw [hf a z] at hu
  cases hu
theorem js_ret (he : JE X E m L.md e f) : JS X E L m m' (.Return (some e) pos) (fRet f) := by
  refine ⟨PSimp (ps_ret he.pe) fun D σ H h => ?_⟩
  obtain ⟨S0, H0, ρ, ⟨S, Fp, st⟩, p⟩ := h
  refine ⟨S, ρ, st.envM, (lift_post st p).postM fun d v S1 H1 fp s1 o hn hf k => ?_⟩
  exact k v H1 (RetOk.of st.1 s1 o hn hf)
/-- an own thing is handed out -/
theorem js_retV (i : Nat) (hmd : mdAt m i = L.md := by rfl) (hN : X.N[i]? = some x := by rfl) (hv : Vis X.env.scope x := by first | exact Or.inl rfl | exact Or.inr (Or.inl rfl) | exact Or.inr (Or.inr rfl)) {p : Pos}
    (hd : (x == ("__debug__" : Str)) = false := by decide) (hcd : (x == ("__classdict__" : Str)) = false := by decide) : JS X E L m m' (.Return (some (.Name x p)) pos) (fRet (fV i)) := by
  refine ⟨PSimp (ps_ret (pe_var hN hv hd hcd)) fun D σ H h => ?_⟩
  obtain ⟨S0, H0, ρ, ⟨S, Fp, st⟩, p⟩ := h
  unfold fRet fV at p
  split at p
  · rename_i d e
    obtain ⟨v, e1, o⟩ := st.2.1.at_ i d e
    rw [hmd] at o
    exact ⟨v, e1, p v H ⟨S, _, st.1, o, st.2.1.nd i d e, st.2.2 i d e⟩⟩
  · exact p.elim
theorem js_if (hc : JT X E m c g) (ha : JSs X E L m m' sts F) (hb : JSs X E L m m' rest G) : JS X E L m m' (.If c sts rest pos) (fIfS g F G) := by
  refine ⟨PSimp (ps_if hc.pt ha.ps hb.ps) fun D σ H h => ?_⟩
  obtain ⟨S0, H0, ρ, ⟨S, Fp, st⟩, p⟩ := h
  refine ⟨S, ρ, st.envM, ?_⟩
  have k := lift_post st p
  cases hg : g ρ with
  | ok bb =>
    rw [hg] at k
    intro S1 H1 s1
    have k1 := k S1 H1 s1
    cases bb with
    | true => exact ⟨S0, H0, ρ, (st.step s1).stM, k1⟩
    | false => exact ⟨S0, H0, ρ, (st.step s1).stM, k1⟩
  | ex c' fs => rw [hg] at k; exact k
  | er => rw [hg] at k; exact k
theorem js_break (w : Weak m L.mb := by first | exact Weak.of (by decide) | exact weak_sh _ | (repeat (first | exact Weak.refl _ | exact weak_sh _ | apply Weak.cons | apply Weak.consSh))) : JS X E L m m' (.Break pos) fBrk := ⟨PSimp ps_break fun D σ H h => by
  obtain ⟨S0, H0, ρ, st, p⟩ := h
  exact p σ H (st.weak w)⟩
theorem set_sh {m : Mds} {i : Nat} (hl : i < m.length) (hmd : mdAt m i = .sh) : m.set i .sh = m := by
  refine List.ext_getElem? fun j => ?_
  rw [List.getElem?_set]
  unfold mdAt at hmd
  rw [List.getD_eq_getElem?_getD, List.getElem?_eq_getElem hl] at hmd
  split
  · rename_i hj
    subst hj
    rw [List.getElem?_eq_getElem hl]
    exact congrArg some hmd.symm
  · rfl
/-- x += e of whole numbers -/
def fAug (i : Nat) (g : D → D → Res D) (f : Env → Res D) : FS := fSet i (f2 g (fV i) f)
theorem js_aug (i : Nat) {pos' : Pos} {op : Operator} {gi : Int → Int → Int} (ho : PIp X op (ipI gi)) (he : JE X E m .sh e f) (hN : X.N.Nodup) (hmd : mdAt m i = .sh := by rfl) (hl : i < m.length := by first | decide | simp) (hi : X.N[i]? = some x := by rfl) (hx : Loc X.env.scope x := by first | exact Or.inl rfl | exact Or.inr rfl)
    (hf : X.fn x = true ∨ X.env.scope.names.lookup x = some .local := by first | exact .inl rfl | exact .inr rfl) : JS X E L m m (.AugAssign (.Name x pos') op e pos) (fAug i (dI yes2 gi) f) := by
  refine ⟨PSimp (ps_aug hN hi hx he.pe ho hf) fun D σ H h => ?_⟩
  obtain ⟨S0, H0, ρ, ⟨S, Fp, st⟩, p⟩ := h
  unfold fAug fSet f2 fV at p
  split at p
  · rename_i dx ex
    obtain ⟨vx, e1, o1⟩ := st.2.1.at_ i dx ex
    rw [hmd] at o1
    refine ⟨vx, e1, S, ρ, st.envM, ?_⟩
    have p' : SPost X.K X.mg E L S0 H0 m (lift ((f ρ).bind fun y => dI yes2 gi dx y) ρ fun d => .ok (.nx (ρ.set i (some d)))) D := p
    have k := PostW.bind (lift_post st p')
    refine k.post fun d v S1 H1 s1 r k1 => ?_
    cases dx with
    | int ix =>
      cases d with
      | int iy =>
        obtain ⟨rx, _⟩ := o1
        cases rx; cases r
        refine ⟨ix, iy, rfl, rfl, ?_⟩
        have k2 := k1 S1 H1 (Step.refl s1.sub)
        have st1 := (st.step s1).set (d := .int (gi ix iy)) (v := .int (gi ix iy)) (md := .sh) (fp := []) hl ⟨.int _, rfl⟩ List.nodup_nil (fun a z => nomatch z) (fun j e' hj ej a ha z => nomatch z)
        have em : m.set i .sh = m := set_sh hl hmd
        rw [em] at st1
        exact k2 _ _ st1.stM
      | _ => exact k1.elim
    | _ =>
      exact k1.elim
  · exact p.elim
def fApp (i : Nat) (f : Env → Res D) : FS := fun ρ => match ρ[i]? with
  | some (some (.lst xs)) => lift (f ρ) ρ fun d => if szOk (xs.length + 1) = true then .ok (.nx (ρ.set i (some (.lst (xs ++ [d]))))) else .er
  | _ => .er
theorem szOk_lt {n : Nat} (h : szOk (n + 1) = true) : n < sizeLine := by
  have := szOk_le h
  rw [sizeLine_eq]; omega
/-- an own list, at a known place or not -/
def IsOw (md : Md) : Prop := md = .ow ∨ ∃ q, md = .owq q
/-- the list of slot i is written -/
theorem StF.write {K : PySem.W.Frag} {mg : Str → Option Value} {S0 H0 S H : Hp} {Fp : Nat → List Addr} {σ : L2.St} {ρ : Env} {i : Nat} {xs ys : List D} {vs ws : List V} {p : Addr} (st : StF K mg m S0 H0 S Fp σ ρ H) (hl : i < m.length) (hmd : IsOw (mdAt m i)) (hρ : ρ[i]? = some (some (.lst xs)))
    (hp : Fp i = [p]) (hσ : σ[i]? = some (some (.ref p))) (sp : S p = none) (hv : H p = some (.lst vs)) (r : RepL K mg S ws ys) : StF K mg m S0 H0 S Fp σ (ρ.set i (some (.lst ys))) (upd H p (.lst ws)) := by
  obtain ⟨s, e, nw⟩ := st
  have hil : i < ρ.length := (List.getElem?_eq_some_iff.mp hρ).1
  have h0 : H0 p = none := nw i _ hρ p (by rw [hp]; exact List.mem_cons_self)
  have key : ∀ j d', (ρ.set i (some (.lst ys)))[j]? = some (some d') → (j = i ∧ d' = .lst ys) ∨ (j ≠ i ∧ ρ[j]? = some (some d')) := fun j d' ej => by
    by_cases hj : j = i
    · subst hj
      rw [List.getElem?_set_self hil] at ej
      injection ej with z; injection z with z
      exact .inl ⟨rfl, z.symm⟩
    · rw [List.getElem?_set_ne (Ne.symm hj)] at ej
      exact .inr ⟨hj, ej⟩
  have same : ∀ {B : Hp}, Same B H → B p = none → Same B (upd H p (.lst ws)) := fun hB hb a o ea => by
    rw [upd_ne (ne_of_none ea hb)]
    exact hB a o ea
  have pres : ∀ {d}, ρ[i]? = some (some d) ↔ d = .lst xs := fun {d} => by
    rw [hρ]
    constructor
    · intro z; injection z with z; injection z with z; exact z.symm
    · intro z; rw [z]
  refine ⟨⟨same s.hh h0, s.ss, same s.sub sp, s.new⟩, ⟨by rw [List.length_set]; exact e.len, fun j d' ej => ?_, fun j d' ej => ?_, fun j k d1 d2 hjk e1 e2 => ?_⟩, fun j d' ej => ?_⟩
  · rcases key j d' ej with ⟨rfl, rfl⟩ | ⟨hj, ej'⟩
    · refine ⟨_, hσ, ?_⟩
      rcases hmd with hmd | ⟨q, hmd⟩
      · rw [hmd]
        exact ⟨p, ws, ys, rfl, rfl, hp, sp, upd_same, r⟩
      · obtain ⟨w, e1, o1⟩ := e.at_ j _ hρ
        rw [hmd] at o1 ⊢
        rw [hσ] at e1
        cases e1
        exact ⟨o1.1, p, ws, ys, rfl, rfl, hp, sp, upd_same, r⟩
    · obtain ⟨w, e1, o1⟩ := e.at_ j d' ej'
      exact ⟨w, e1, o1.other sp fun z => e.apart i j _ d' (Ne.symm hj) hρ ej' p (by rw [hp]; exact List.mem_cons_self) z⟩
  · rcases key j d' ej with ⟨rfl, rfl⟩ | ⟨hj, ej'⟩
    · exact e.nd _ _ hρ
    · exact e.nd j d' ej'
  · have live : ∀ j d', (ρ.set i (some (.lst ys)))[j]? = some (some d') → ∃ d'', ρ[j]? = some (some d'') := fun j d' ej => by
      rcases key j d' ej with ⟨rfl, _⟩ | ⟨_, ej'⟩
      · exact ⟨_, hρ⟩
      · exact ⟨_, ej'⟩
    obtain ⟨d1', h1⟩ := live j d1 e1
    obtain ⟨d2', h2⟩ := live k d2 e2
    exact e.apart j k d1' d2' hjk h1 h2
  · rcases key j d' ej with ⟨rfl, rfl⟩ | ⟨hj, ej'⟩
    · exact nw _ _ hρ
    · exact nw j d' ej'
/-- what is known of an own list -/
theorem StF.own {K : PySem.W.Frag} {mg : Str → Option Value} {S0 H0 S H : Hp} {Fp : Nat → List Addr} {σ : L2.St} {ρ : Env} {i : Nat} {d : D} (st : StF K mg m S0 H0 S Fp σ ρ H) (hmd : IsOw (mdAt m i)) (hρ : ρ[i]? = some (some d)) :
    ∃ p vs ds, d = .lst ds ∧ Fp i = [p] ∧ σ[i]? = some (some (.ref p)) ∧ S p = none ∧ H p = some (.lst vs) ∧ RepL K mg S vs ds := by
  obtain ⟨v, e1, o⟩ := st.2.1.at_ i d hρ
  rcases hmd with hmd | ⟨q, hmd⟩
  · rw [hmd] at o
    obtain ⟨p, vs, ds, rfl, rfl, e3, e4, e5, e6⟩ := o
    exact ⟨p, vs, ds, rfl, e3, e1, e4, e5, e6⟩
  · rw [hmd] at o
    obtain ⟨e0, p, vs, ds, rfl, rfl, e3, e4, e5, e6⟩ := o
    exact ⟨p, vs, ds, rfl, e3, e1, e4, e5, e6⟩
theorem js_app (i : Nat) {p1 p2 p3 : Pos} (he : JE X E m .sh e f) (hmd : IsOw (mdAt m i) := by first | exact .inl rfl | exact .inr ⟨_, rfl⟩) (hl : i < m.length := by first | decide | simp) (hN : X.N[i]? = some x := by rfl) (hv : Vis X.env.scope x := by first | exact Or.inl rfl | exact Or.inr (Or.inl rfl) | exact Or.inr (Or.inr rfl))
    (hd : (x == ("__debug__" : Str)) = false := by decide) (hcd : (x == ("__classdict__" : Str)) = false := by decide)
    (hs : swapsWith (.Call (.Attribute (.Name x p1) "append" p2) [e] [] p3) none pos.line X.env = pure false := by rfl)
    (hpe : ∀ {to te : TE}, PE X (.Name x p1) to → PE X e te → PE X (.Call (.Attribute (.Name x p1) "append" p2) [e] [] p3) (tBM X.K "list" rAppend to (tCons te tNil)) := by
      intro to te ho he
      exact pe_bm PySem.F.plainAttrs_list PySem.F.slot_list_append PySem.F.type_list_append mt_append ho (pa_cons he pa_nil)) :
    JS X E L m m (.Expr (.Call (.Attribute (.Name x p1) "append" p2) [e] [] p3) pos) (fApp i f) := by
  refine ⟨PSimp (ps_expr (hpe (pe_var hN hv hd hcd) he.pe) hs) fun D σ H h => ?_⟩
  obtain ⟨S0, H0, ρ, ⟨S, Fp, st⟩, p⟩ := h
  unfold fApp at p
  split at p
  · rename_i xs exs
    obtain ⟨pa, vs, ds, eds, e1, e2, e3, e4, e5⟩ := st.own hmd exs
    cases eds
    refine ⟨_, e2, .inl ⟨rfl, vs, .inl (.inl e4)⟩, S, ρ, st.envM, (lift_post st p).post fun d v S1 H1 s1 r k => ?_⟩
    split at k
    · rename_i hz
      obtain ⟨qa, vs1, ds1, eds, q1, q2, q3, q4, q5⟩ := (st.step s1).own hmd exs
      cases eds
      obtain rfl : qa = pa := by
        rw [e2] at q2
        injection q2 with z; injection z with z; injection z with z
        exact z.symm
      refine ⟨qa, vs1, v, rfl, rfl, q4, by rw [q5.len]; exact szOk_lt hz, ?_⟩
      exact k _ _ ((st.step s1).write hl hmd exs q1 q2 q3 q4 (q5.snoc r)).stM
    · exact k.elim
  · exact p.elim
/-- x[j] = e of an own list -/
def fSetIx (i : Nat) (fe fj : Env → Res D) : FS := fun ρ => match ρ[i]? with
  | some (some (.lst xs)) => lift (fe ρ) ρ fun d => lift (fj ρ) ρ fun j => match j with
    | .int z => (match ixN xs.length z with
      | some k => .ok (.nx (ρ.set i (some (.lst (xs.set k d)))))
      | none => .er)
    | _ => .er
  | _ => .er
theorem js_setix (i : Nat) {p1 p2 : Pos} {j : Expr} {fj : Env → Res D} (he : JE X E m .sh e f) (hj : JE X E m .sh j fj) (hmd : IsOw (mdAt m i) := by first | exact .inl rfl | exact .inr ⟨_, rfl⟩) (hl : i < m.length := by first | decide | simp) (hN : X.N[i]? = some x := by rfl) (hv : Vis X.env.scope x := by first | exact Or.inl rfl | exact Or.inr (Or.inl rfl) | exact Or.inr (Or.inr rfl))
    (hd : (x == ("__debug__" : Str)) = false := by decide) (hcd : (x == ("__classdict__" : Str)) = false := by decide)
    (hps : ∀ {to ti te : TE}, PE X (.Name x p1) to → PE X j ti → PE X e te → PS X (.Assign [.Subscript (.Name x p1) j p2] e pos) (tAsg te (gSub to ti rSetL)) := by
      intro to ti te ho hi he
      exact ps_asg he (pg_sub ho hi set_list)) :
    JS X E L m m (.Assign [.Subscript (.Name x p1) j p2] e pos) (fSetIx i f fj) := by
  refine ⟨PSimp (hps (pe_var hN hv hd hcd) hj.pe he.pe) fun D σ H h => ?_⟩
  obtain ⟨S0, H0, ρ, ⟨S, Fp, st⟩, p⟩ := h
  unfold fSetIx at p
  split at p
  · rename_i xs exs
    obtain ⟨pa, vs, ds, eds, e1, e2, e3, e4, e5⟩ := st.own hmd exs
    refine ⟨S, ρ, st.envM, (lift_post st p).post fun d v S1 H1 s1 r k => ⟨_, e2, S1, ρ, (st.step s1).envM, (lift_post (st.step s1) k).post fun dj vj S2 H2 s2 rj k2 => ?_⟩⟩
    cases dj with
    | int z =>
      cases rj
      have k2 : SPost X.K X.mg E L S0 H0 m (match ixN xs.length z with
        | some k => .ok (.nx (ρ.set i (some (.lst (xs.set k d)))))
        | none => .er) D := k2
      split at k2
      · rename_i kk ek
        obtain ⟨qa, vs1, ds1, eds1, q1, q2, q3, q4, q5⟩ := ((st.step s1).step s2).own hmd exs
        cases eds1
        obtain rfl : qa = pa := by
          rw [e2] at q2
          injection q2 with z; injection z with z; injection z with z
          exact z.symm
        exact ⟨qa, vs1, z, kk, rfl, rfl, q4, by rw [q5.len]; exact ek, k2 _ _ (((st.step s1).step s2).write hl hmd exs q1 q2 q3 q4 (q5.set kk (r.mono s2.ss))).stM⟩
      · exact k2.elim
    | _ => exact k2.elim
  · exact p.elim
end
end Da
namespace Da
open PySem PySem.Spec L2
/-- the loop over the items -/
def forGo (g : D → Env → Res Env) (F : FS) : List D → FS
  | [], ρ => .ok (.nx ρ)
  | x :: xs, ρ => match g x ρ with
    | .ok ρ1 => (match F ρ1 with
      | .ok (.nx ρ2) => forGo g F xs ρ2
      | .ok (.ct ρ2) => forGo g F xs ρ2
      | .ok (.bk ρ2) => .ok (.nx ρ2)
      | o => o)
    | _ => .er
def fFor (it : Env → Res (List D)) (g : D → Env → Res Env) (F : FS) : FS := fun ρ => lift (it ρ) ρ fun xs => forGo g F xs ρ
/-- while, in at most n turns -/
def whileGo (c : Env → Res Bool) (F : FS) : Nat → FS
  | 0, _ => .er
  | n + 1, ρ => lift (c ρ) ρ fun b => if b = true then (match F ρ with
      | .ok (.nx ρ2) => whileGo c F n ρ2
      | .ok (.ct ρ2) => whileGo c F n ρ2
      | .ok (.bk ρ2) => .ok (.nx ρ2)
      | o => o) else .ok (.nx ρ)
def FUEL : Nat := 1000000000000000000
def fWhile (c : Env → Res Bool) (F : FS) : FS := whileGo c F FUEL
/-- the iterator J gives the items ds, from the view S on -/
structure WalkD (K : PySem.W.Frag) (mg : Str → Option Value) (J : It) (S : Hp) (ds : List D) : Prop where
  go : ∀ i d S1 H1, ds[i]? = some d → Same S S1 → Same S1 H1 → J.go i H1 ∧ ∀ x H2, J.yld i H1 x H2 → ∃ S2, Step S1 H1 S2 H2 ∧ Rep K mg S2 x d
  stop : ∀ S1 H1, Same S S1 → Same S1 H1 → J.stop ds.length H1
def tI (K : PySem.W.Frag) (mg : Str → Option Value) (E : WX) (m : Mds) (f : Env → Res (List D)) : TI := fun σ H R => ∃ S ρ, EnvM K mg m S H σ ρ ∧ PostW K mg (WE E σ) S H (f ρ) fun ds S' H' => ∀ J, WalkD K mg J S' ds → R J H'
structure JI (X : Cx) (E : WX) (m : Mds) (tg iter : Expr) (f : Env → Res (List D)) : Prop where
  pi : PI X tg iter (tI X.K X.mg E m f)
/-- a target takes a value -/
def tGD (K : PySem.W.Frag) (mg : Str → Option Value) (m : Mds) (ts : List Nat) (g : D → Env → Res Env) : TG := fun v σ H Q => ∃ S0 H0 S F ρ d, StF K mg m S0 H0 S F σ ρ H ∧ Rep K mg S v d ∧ (match g d ρ with
  | .ok ρ1 => ∀ σ1 S1 F1 H1, StF K mg m S0 H0 S1 F1 σ1 ρ1 H1 → Step S H S1 H1 → (σ1.length = σ.length ∧ ∀ j, j ∉ ts → σ1[j]? = σ[j]?) → Q σ1 H1
  | _ => False)
structure JG (X : Cx) (m : Mds) (ts : List Nat) (tg : Expr) (g : D → Env → Res Env) : Prop where
  pg : PG X tg (tGD X.K X.mg m ts g)
section
variable {X : Cx} {E : WX} {L : Lp} {m m1 m2 m' : Mds} {md : Md} {st : Stmt} {sts rest : List Stmt} {e a b tg iter : Expr} {f fa fb : Env → Res D} {c : Expr} {g : Env → Res Bool} {F G : FS} {pos : Pos} {x : Str} {it : Env → Res (List D)} {gt : D → Env → Res Env}
/-- a name: what it holds is shared -/
def gN (i : Nat) : D → Env → Res Env := fun d ρ => .ok (ρ.set i (some d))
theorem jg_name (i : Nat) (hN : X.N.Nodup) (hmd : mdAt m i = .sh := by rfl) (hl : i < m.length := by first | decide | simp) (hi : X.N[i]? = some x := by rfl) (hx : Loc X.env.scope x := by first | exact Or.inl rfl | exact Or.inr rfl)
    (hf : X.fn x = true ∨ X.env.scope.names.lookup x = some .local := by first | exact .inl rfl | exact .inr rfl) : JG X m [i] (.Name x pos) (gN i) := by
  refine ⟨⟨fun pins s σ H v u Q I r h => ?_⟩⟩
  refine (pg_name hN hi hx hf).run pins s σ H v u Q I r ?_
  obtain ⟨S0, H0, S, Fp, ρ, d, st, rd, p⟩ := h
  have st1 := st.set (d := d) (v := v) (md := .sh) (fp := []) hl ⟨rd, rfl⟩ List.nodup_nil (fun a z => nomatch z) (fun j e' hj ej a ha z => nomatch z)
  rw [set_sh hl hmd] at st1
  exact p _ S _ H st1 (Step.refl st.1.sub) ⟨List.length_set, fun j hj => List.getElem?_set_ne fun z => hj (by rw [z]; exact List.mem_cons_self)⟩
theorem js_for (hi : JI X E m tg iter it) {ts : List Nat} (hg : JG X m ts tg gt) (hb : JSs X E ⟨m, m, L.md⟩ m m sts F) (hp : PassesOwn (model X.prog X.w) X.A X.env X.xe) (hc : X.calm = true := by rfl)
    (hs : ∀ x, foldedSetIterable iter X.env x = pure x := by intro _; rfl) : JS X E L m m (.For tg iter sts [] pos) (fFor it gt F) := by
  refine ⟨PSimp (ps_for hp hc hi.pi hg.pg hb.ps hs) fun D σ H h => ?_⟩
  obtain ⟨S0, H0, ρ, ⟨S, Fp, st⟩, p⟩ := h
  refine ⟨S, ρ, st.envM, (lift_post st p).imp fun ds S1 H1 s1 k J w => ?_⟩
  -- from here on the entry is (S1, H0)
  have st1 := st.step s1
  refine ⟨fun i n σ H => n = ds.length - i ∧ i ≤ ds.length ∧ ∃ S2 F2 ρ2, StF X.K X.mg m S1 H0 S2 F2 σ ρ2 H ∧ SPost X.K X.mg E L S0 H0 m (forGo gt F (ds.drop i) ρ2) D, ⟨ds.length, by simp, Nat.zero_le _, S1, Fp, ρ, ⟨st1.1.fwd, st1.2⟩, k⟩, ?_⟩
  rintro i n σ2 H2 ⟨rfl, hi, S2, F2, ρ2, st2, p2⟩
  by_cases hlt : i < ds.length
  · obtain ⟨hgo, hyl⟩ := w.go i ds[i] S2 H2 (List.getElem?_eq_getElem hlt) st2.1.ss st2.1.sub
    refine .inr ⟨hgo, fun σ' H' => ∃ S3 F3 ρ3, StF X.K X.mg m S1 H0 S3 F3 σ' ρ3 H' ∧ SPost X.K X.mg E L S0 H0 m (forGo gt F (ds.drop (i + 1)) ρ3) D, fun σ' H' z => ⟨ds.length - (i + 1), by omega, rfl, hlt, z⟩, fun x H3 y => ?_⟩
    obtain ⟨S3, s3, r3⟩ := hyl x H3 y
    refine ⟨S1, H0, S3, F2, ρ2, ds[i], st2.step s3, r3, ?_⟩
    rw [List.drop_eq_getElem_cons hlt] at p2
    unfold forGo at p2
    cases eg : gt ds[i] ρ2 with
    | ok ρ3 =>
      rw [eg] at p2
      refine fun σ4 S4 F4 H4 st4 s4 _ => ⟨S1, H0, ρ3, st4.stM, ?_⟩
      have p3 : SPost X.K X.mg E L S0 H0 m (match F ρ3 with
        | .ok (.nx ρ2) => forGo gt F (ds.drop (i + 1)) ρ2
        | .ok (.ct ρ2) => forGo gt F (ds.drop (i + 1)) ρ2
        | .ok (.bk ρ2) => .ok (.nx ρ2)
        | o => o) D := p2
      cases ef : F ρ3 with
      | ok o =>
        rw [ef] at p3
        cases o with
        | nx ρ5 => exact fun σ5 H5 ⟨S5, F5, st5⟩ => ⟨S5, F5, ρ5, st5, p3⟩
        | ct ρ5 => exact fun σ5 H5 ⟨S5, F5, st5⟩ => ⟨S5, F5, ρ5, st5, p3⟩
        | bk ρ5 => exact fun σ5 H5 ⟨S5, F5, st5⟩ => p3 σ5 H5 ⟨S5, F5, st1.1.back st5.1, st5.2⟩
        | rt d => exact fun v H5 ⟨S5, fp, s5, o5⟩ => p3 v H5 ⟨S5, fp, st1.1.back s5, o5⟩
        | xc c' fs ρ5 => exact fun σ5 S5 F5 H5 cls dd st5 x5 => p3 σ5 S5 F5 H5 cls dd ⟨st1.1.back st5.1, st5.2⟩ x5
      | ex c' fs => rw [ef] at p3; exact p3
      | er => rw [ef] at p3; exact p3
    | ex c' fs => rw [eg] at p2; exact p2
    | er => rw [eg] at p2; exact p2
  · have e : i = ds.length := by omega
    subst e
    rw [List.drop_length] at p2
    exact .inl ⟨w.stop S2 H2 st2.1.ss st2.1.sub, p2 σ2 H2 ⟨S2, F2, st1.1.back st2.1, st2.2⟩⟩
theorem js_while (hc : JT X E m c g) (hb : JSs X E ⟨m, m, L.md⟩ m m sts F) (hp : PassesOwn (model X.prog X.w) X.A X.env X.xe) : JS X E L m m (.While c sts [] pos) (fWhile g F) := by
  refine ⟨PSimp (ps_while hp hc.pt hb.ps) fun D σ H h => ?_⟩
  obtain ⟨S0, H0, ρ, ⟨S, Fp, st⟩, p⟩ := h
  refine ⟨fun n σ H => ∃ S2 F2 ρ2, StF X.K X.mg m S0 H0 S2 F2 σ ρ2 H ∧ SPost X.K X.mg E L S0 H0 m (whileGo g F n ρ2) D, ⟨FUEL, S, Fp, ρ, st, p⟩, ?_⟩
  rintro n σ2 H2 ⟨S2, F2, ρ2, st2, p2⟩
  cases n with
  | zero => exact p2.elim
  | succ n =>
    unfold whileGo at p2
    have k := lift_post st2 p2
    refine ⟨S2, ρ2, st2.envM, k.imp fun b S3 H3 s3 k3 => ?_⟩
    cases b with
    | true =>
      refine ⟨fun σ' H' => ∃ S3 F3 ρ3, StF X.K X.mg m S0 H0 S3 F3 σ' ρ3 H' ∧ SPost X.K X.mg E L S0 H0 m (whileGo g F n ρ3) D, fun σ' H' z => ⟨n, Nat.lt_succ_self n, z⟩, S0, H0, ρ2, (st2.step s3).stM, ?_⟩
      have p3 : SPost X.K X.mg E L S0 H0 m (match F ρ2 with
        | .ok (.nx ρ2) => whileGo g F n ρ2
        | .ok (.ct ρ2) => whileGo g F n ρ2
        | .ok (.bk ρ2) => .ok (.nx ρ2)
        | o => o) D := k3
      cases ef : F ρ2 with
      | ok o =>
        rw [ef] at p3
        cases o with
        | nx ρ5 => exact fun σ5 H5 ⟨S5, F5, st5⟩ => ⟨S5, F5, ρ5, st5, p3⟩
        | ct ρ5 => exact fun σ5 H5 ⟨S5, F5, st5⟩ => ⟨S5, F5, ρ5, st5, p3⟩
        | bk ρ5 => exact p3
        | rt d => exact p3
        | xc c' fs ρ5 => exact p3
      | ex c' fs => rw [ef] at p3; exact p3
      | er => rw [ef] at p3; exact p3
    | false => exact k3 σ2 H3 (st2.step s3).stM
def asL : D → Res (List D)
  | .lst xs => .ok xs
  | .frl xs => .ok xs
  | .tup xs => .ok xs
  | _ => .er
theorem walk_l {K : PySem.W.Frag} {mg : Str → Option Value} {S : Hp} {a : Addr} {vs : List V} {ds : List D} (h : SqL K S a vs) (r : RepL K mg S vs ds) : WalkD K mg (Itl K a) S ds where
  go := fun i d S1 H1 e s1 s2 => by
    obtain ⟨v, ev, rv⟩ := r.get e
    refine ⟨⟨vs, v, same_l s2 (same_l s1 h), ev⟩, fun x H2 ⟨e2, y⟩ => ?_⟩
    subst e2
    have := y vs (same_l s2 (same_l s1 h))
    rw [ev] at this
    cases this
    exact ⟨S1, Step.refl s2, rv.mono s1⟩
  stop := fun S1 H1 s1 s2 => ⟨vs, same_l s2 (same_l s1 h), Nat.le_of_eq r.len⟩
theorem walk_t {K : PySem.W.Frag} {mg : Str → Option Value} {S : Hp} {a : Addr} {vs : List V} {ds : List D} (h : SqT K S a vs) (r : RepL K mg S vs ds) : WalkD K mg (Itt K a) S ds where
  go := fun i d S1 H1 e s1 s2 => by
    obtain ⟨v, ev, rv⟩ := r.get e
    refine ⟨⟨vs, v, same_t s2 (same_t s1 h), ev⟩, fun x H2 ⟨e2, y⟩ => ?_⟩
    subst e2
    have := y vs (same_t s2 (same_t s1 h))
    rw [ev] at this
    cases this
    exact ⟨S1, Step.refl s2, rv.mono s1⟩
  stop := fun S1 H1 s1 s2 => ⟨vs, same_t s2 (same_t s1 h), Nat.le_of_eq r.len⟩
def iSeq (K : PySem.W.Frag) (tl : TE) : TI := fun σ H R => tl σ H fun x H1 => ∃ a, x = .ref a ∧ ((∃ xs, SqL K H1 a xs) ∧ R (Itl K a) H1 ∨ (∃ xs, SqT K H1 a xs) ∧ R (Itt K a) H1)
theorem pi_seq {l : Expr} {tl : TE} (hl : PE X l tl) : PI X tg l (iSeq X.K tl) := by
  refine ⟨fun pins s σ H R I h => thn (hl.run pins s σ H _ I h) fun v s1 hv => ?_⟩
  obtain ⟨y, Hy, Iy, ry, a, rfl, q⟩ := hv
  cases ry
  have fresh : ∀ b, b ∈ [s1.heap.objs.size] → FpOk X pins Hy b := fun b hb => by
    rw [List.mem_singleton.mp hb]
    exact Iy.fpOk (Nat.le_refl _) (Iy.hok.fresh (Nat.le_refl _))
  rcases q with ⟨⟨xs, hq⟩, q⟩ | ⟨⟨xs, hq⟩, q⟩
  · obtain ⟨its, _, pl, _⟩ := Iy.list hq
    refine wpAny_pyIter_list pl.isList ⟨_, [_], _, Itl X.K a, Hy, rfl, ?_, turn_list a _, ?_, fresh, q⟩
    · exact Iy.kept (t' := s1.toks) fun b o e => Heap.get?_push_of_some _ e
    · exact ⟨_, Heap.get?_push_size _ rfl, rfl, rfl⟩
  · obtain ⟨its, _, pl, _⟩ := Iy.tuple hq
    refine wpAny_pyIter_tuple (show s1.heap.IsTuple a its.toArray from pl) ⟨_, [_], _, Itt X.K a, Hy, rfl, ?_, turn_tuple a _, ?_, fresh, q⟩
    · exact Iy.kept (t' := s1.toks) fun b o e => Heap.get?_push_of_some _ e
    · exact ⟨_, Heap.get?_push_size _ rfl, rfl, rfl⟩
def fL (f : Env → Res D) : Env → Res (List D) := fun ρ => (f ρ).bind asL
theorem ji_seq (he : JE X E m .sh e f) : JI X E m tg e (fL f) := by
  refine ⟨⟨fun pins s σ H R I h => (pi_seq he.pe).run pins s σ H R I ?_⟩⟩
  obtain ⟨S, ρ, hm, hp⟩ := h
  refine ⟨S, ρ, hm, (PostW.bind hp).post fun d v S1 H1 s1 r k => ?_⟩
  cases d with
  | lst xs =>
    obtain ⟨a, vs, rfl, ha, rv⟩ := r.of_lst
    exact ⟨a, rfl, .inl ⟨⟨vs, .inl (.inl (s1.sub _ _ ha))⟩, k S1 H1 (Step.refl s1.sub) _ (walk_l (.inl (.inl ha)) rv)⟩⟩
  | frl xs =>
    obtain ⟨a, vs, rfl, ha, rv⟩ := r.of_frl
    exact ⟨a, rfl, .inl ⟨⟨vs, same_l s1.sub ha⟩, k S1 H1 (Step.refl s1.sub) _ (walk_l ha rv)⟩⟩
  | tup xs =>
    obtain ⟨a, vs, rfl, ha, rv⟩ := r.of_tup
    exact ⟨a, rfl, .inr ⟨⟨vs, same_t s1.sub ha⟩, k S1 H1 (Step.refl s1.sub) _ (walk_t ha rv)⟩⟩
  | _ => exact k.elim
def rng (lo : Int) (n : Nat) : List D := (List.range n).map fun (i : Nat) => D.int (lo + i)
theorem walk_r {K : PySem.W.Frag} {mg : Str → Option Value} {S : Hp} (lo : Int) (n : Nat) : WalkD K mg (Itr lo n) S (rng lo n) where
  go := fun i d S1 H1 e s1 s2 => by
    unfold rng at e
    rw [List.getElem?_map] at e
    have hi : i < n := by
      cases q : (List.range n)[i]? with
      | none => rw [q] at e; cases e
      | some j =>
        have := (List.getElem?_eq_some_iff.mp q).1
        rwa [List.length_range] at this
    rw [List.getElem?_range hi] at e
    cases e
    exact ⟨hi, fun x H2 ⟨e2, y⟩ => by subst e2 y; exact ⟨S1, Step.refl s2, .int _⟩⟩
  stop := fun S1 H1 s1 s2 => by
    show n ≤ (rng lo n).length
    unfold rng
    rw [List.length_map, List.length_range]
    exact Nat.le_refl _
def rngOk (i j : Int) : Bool := stuck (-(4611686018427387904) ≤ i ∧ i < 4611686018427387904 ∧ -(4611686018427387904) ≤ j ∧ j < 4611686018427387904)
theorem rngOk_ok {i j : Int} (h : rngOk i j = true) : -(2 ^ 62) ≤ i ∧ i < 2 ^ 62 ∧ -(2 ^ 62) ≤ j ∧ j < 2 ^ 62 := by
  obtain ⟨h1, h2, h3, h4⟩ := stuck_iff.mp h
  have e : (2 : Int) ^ 62 = 4611686018427387904 := by decide
  rw [e]
  exact ⟨h1, h2, h3, h4⟩
def gRng1 : List D → Res (List D)
  | [.int j] => if rngOk 0 j = true then .ok (rng 0 j.toNat) else .er
  | _ => .er
def gRng2 : List D → Res (List D)
  | [.int i, .int j] => if rngOk i j = true then .ok (rng i (j - i).toNat) else .er
  | _ => .er
theorem gRng1_ok {ds xs : List D} (h : gRng1 ds = .ok xs) : ∃ j, ds = [.int j] ∧ rngOk 0 j = true ∧ xs = rng 0 j.toNat := by
  unfold gRng1 at h
  split at h
  · rename_i j
    split at h
    · rename_i hk
      injection h with h
      exact ⟨j, rfl, hk, h.symm⟩
    · cases h
  · cases h
theorem gRng2_ok {ds xs : List D} (h : gRng2 ds = .ok xs) : ∃ i j, ds = [.int i, .int j] ∧ rngOk i j = true ∧ xs = rng i (j - i).toNat := by
  unfold gRng2 at h
  split at h
  · rename_i i j
    split at h
    · rename_i hk
      injection h with h
      exact ⟨i, j, rfl, hk, h.symm⟩
    · cases h
  · cases h
theorem gRng1_ex {ds : List D} {c : Str} {fs : List (Str × D)} : gRng1 ds ≠ .ex c fs := by
  unfold gRng1
  split
  · split <;> exact fun z => nomatch z
  · exact fun z => nomatch z
theorem gRng2_ex {ds : List D} {c : Str} {fs : List (Str × D)} : gRng2 ds ≠ .ex c fs := by
  unfold gRng2
  split
  · split <;> exact fun z => nomatch z
  · exact fun z => nomatch z
def fR1 (fs : Env → Res (List D)) : Env → Res (List D) := fun ρ => (fs ρ).bind gRng1
def fR2 (fs : Env → Res (List D)) : Env → Res (List D) := fun ρ => (fs ρ).bind gRng2
theorem PostW.of_if {α : Type} {K : PySem.W.Frag} {mg : Str → Option Value} {E : XK} {S H : Hp} {r : Res α} {c : Bool} {k : α → Hp → Hp → Prop} (h : PostW K mg E S H (if c = true then r else .er) k) : c = true ∧ PostW K mg E S H r k := by
  split at h
  · rename_i hc; exact ⟨hc, h⟩
  · exact h.elim
theorem RepL.int1 {K : PySem.W.Frag} {mg : Str → Option Value} {S : Hp} {vs : List V} {j : Int} (r : RepL K mg S vs [.int j]) : vs = [.int j] := RepL.ints (ns := [j]) r
theorem RepL.int2 {K : PySem.W.Frag} {mg : Str → Option Value} {S : Hp} {vs : List V} {i j : Int} (r : RepL K mg S vs [.int i, .int j]) : vs = [.int i, .int j] := RepL.ints (ns := [i, j]) r
theorem PostW.okOf {α : Type} {K : PySem.W.Frag} {mg : Str → Option Value} {E : XK} {S H : Hp} {r : Res α} {k : α → Hp → Hp → Prop} (h : PostW K mg E S H r k) (hx : ∀ c fs, r ≠ .ex c fs) : ∃ a, r = .ok a ∧ ∀ S' H', Step S H S' H' → k a S' H' := by
  cases r with
  | ok a => exact ⟨a, rfl, h⟩
  | ex c fs => exact absurd rfl (hx c fs)
  | er => exact h.elim
theorem ji_range1 {fs : Env → Res (List D)} {p : Pos} (ha : JA X E m [a] fs) (hm : X.mg "range" = none) (hg : Gl X "range" := by rfl) (hs : starEach [a] X.env = [(false, eval a X.env)] := by rfl) : JI X E m tg (.Call (.Name "range" p) [a] [] pos) (fR1 fs) := by
  refine ⟨⟨fun pins s σ H R I h => (pi_range1 hg hm ha.pa hs).run pins s σ H R I ?_⟩⟩
  obtain ⟨S, ρ, hm, hp⟩ := h
  refine ⟨S, ρ, hm, (PostW.bind hp).imp fun ds S1 H1 s1 k vs rv => ?_⟩
  obtain ⟨xs, e, k⟩ := PostW.okOf k fun _ _ => gRng1_ex
  obtain ⟨j, rfl, hk, rfl⟩ := gRng1_ok e
  obtain ⟨_, _, h3, h4⟩ := rngOk_ok hk
  exact ⟨j, rv.int1, h3, h4, k S1 H1 (Step.refl s1.sub) _ (walk_r 0 j.toNat)⟩
theorem ji_range2 {fs : Env → Res (List D)} {p : Pos} (ha : JA X E m [a, b] fs) (hm : X.mg "range" = none) (hg : Gl X "range" := by rfl) (hs : starEach [a, b] X.env = [(false, eval a X.env), (false, eval b X.env)] := by rfl) (hs2 : starEach [b] X.env = [(false, eval b X.env)] := by rfl) :
    JI X E m tg (.Call (.Name "range" p) [a, b] [] pos) (fR2 fs) := by
  refine ⟨⟨fun pins s σ H R I h => (pi_range2 hg hm ha.pa hs hs2).run pins s σ H R I ?_⟩⟩
  obtain ⟨S, ρ, hm, hp⟩ := h
  refine ⟨S, ρ, hm, (PostW.bind hp).imp fun ds S1 H1 s1 k vs rv => ?_⟩
  obtain ⟨xs, e, k⟩ := PostW.okOf k fun _ _ => gRng2_ex
  obtain ⟨i, j, rfl, hk, rfl⟩ := gRng2_ok e
  exact ⟨i, j, rv.int2, rngOk_ok hk, k S1 H1 (Step.refl s1.sub) _ (walk_r i (j - i).toNat)⟩
end
end Da
namespace Da
open PySem PySem.Spec L2
def chk (n : Nat) (f : List D → Res D) : List D → Res D := fun ds => if ds.length = n then f ds else .er
/-- what a def promises: it does to data what f does -/
def spD (K : PySem.W.Frag) (mg : Str → Option Value) (np : Nat) (md : Md) (f : List D → Res D) : Sp := fun vs H Q E => ∃ S ds, Same S H ∧ RepL K mg S vs ds ∧ Post K mg E S H md (chk np f ds) Q
def startE (n : Nat) (ds : List D) : Env := ds.map some ++ List.replicate (n - ds.length) none
/-- a body's run -/
def runF (n : Nat) (md : Md) (F : FS) (ds : List D) : Res D := match F (startE n ds) with
  | .ok (.rt d) => .ok d
  | .ok (.nx _) => if md = .sh then .ok .non else .er
  | .ok (.xc c fs _) => .ex c fs
  | _ => .er
abbrev msh (n : Nat) : Mds := List.replicate n .sh
theorem mdAt_msh {n i : Nat} : mdAt (msh n) i = .sh := by
  unfold mdAt
  rw [List.getD_eq_getElem?_getD, List.getElem?_replicate]
  split <;> rfl
theorem Post.chkd {K : PySem.W.Frag} {mg : Str → Option Value} {E : XK} {S H : Hp} {md : Md} {np : Nat} {f : List D → Res D} {ds : List D} {Q : VK} (h : Post K mg E S H md (chk np f ds) Q) : ds.length = np ∧ Post K mg E S H md (f ds) Q := by
  unfold chk at h
  split at h
  · rename_i e; exact ⟨e, h⟩
  · exact h.elim
section
variable {P : Program} {w : World} {K : PySem.W.Frag} {mg : Str → Option Value} {base : Heap}
theorem fn_ok {x qual : Str} {st : Stmt} {f : Addr} {fd : FuncData} {N ps : List Str} {k : Nat} {md : Md} {m' : Mds} {F : FS} (Fn : Fun K x qual st f fd) (Sc : FnScope N ps (defScope st)) (hnp : ps.length ≤ N.length)
    (h : ∀ (cdv : Value) (A : Around) (outer : List PySem.Env) (s : Shared) (H : Hp) (E : XK), Room k (A.deeper (PyProof.Rows.envOfC qual (defScope st) s.heap.objs.size f cdv)) →
      JSs (cxOf (L2.CX P w) P w K mg base N qual (defScope st) f cdv A outer s H E) (fun cls d _ H => E cls d H) ⟨[], [], md⟩ (msh N.length) m' (defBody st) F) :
    FnOk P w K mg base (L2.CX P w) (k + 1) f fd ps (spD K mg ps.length md (runF N.length md F)) := by
  refine Fn.okX Sc (fun vs H Q E hsp => ?_) (fun cdv A outer s H vs Q E hr hsp => ?_)
  · obtain ⟨S, ds, hs, rv, hp⟩ := hsp
    rw [rv.len]
    exact hp.chkd.1
  · obtain ⟨S, ds, hs, rv, hp⟩ := hsp
    obtain ⟨hl, hp⟩ := hp.chkd
    refine ⟨_, (h cdv A outer s H E hr).ps, S, H, startE N.length ds, ⟨S, fun _ => [], Step.refl hs, ⟨?_, fun i d e => ?_, fun i d e => List.nodup_nil, fun i j d e _ _ _ a ha => nomatch ha⟩, fun i d e a ha => nomatch ha⟩, ?_⟩
    · unfold startE L2.start
      rw [List.length_append, List.length_append, List.length_map, List.length_map, List.length_replicate, List.length_replicate, rv.len]
    · unfold startE at e
      by_cases hi : i < ds.length
      · rw [List.getElem?_append_left (by rw [List.length_map]; exact hi), List.getElem?_map, List.getElem?_eq_getElem hi] at e
        have e' : ds[i] = d := by injection e with e; injection e
        obtain ⟨v, ev, r⟩ := rv.get (List.getElem?_eq_getElem hi)
        refine ⟨v, ?_, ?_⟩
        · unfold L2.start
          rw [List.getElem?_append_left (by rw [List.length_map, rv.len]; exact hi), List.getElem?_map, ev]
          rfl
        · rw [mdAt_msh, ← e']
          exact ⟨r, rfl⟩
      · rw [List.getElem?_append_right (by rw [List.length_map]; omega), List.getElem?_replicate] at e
        split at e <;> cases e
    · unfold runF at hp
      cases ef : F (startE N.length ds) with
      | ok o =>
        rw [ef] at hp
        cases o with
        | nx ρ =>
          intro σ' H' ⟨S', F', st'⟩
          simp only at hp
          split at hp
          · rename_i hmd
            subst hmd
            exact hp .non S' H' [] st'.1 ⟨.non, rfl⟩ List.nodup_nil (fun a z => nomatch z)
          · exact hp.elim
        | rt d => exact fun v H' ⟨S', fp, s', o', n', f'⟩ => hp v S' H' fp s' o' n' f'
        | bk ρ => exact hp.elim
        | ct ρ => exact hp.elim
        | xc c fs ρ => exact fun σ' S' F' H' cls dd st' x' => hp S' H' cls dd st'.1 x'
      | ex c fs => rw [ef] at hp; exact hp.elim
      | er => rw [ef] at hp; exact hp.elim
end
section
variable {X : Cx} {E : WX} {m : Mds} {md : Md} {a b e : Expr} {es : List Expr} {fa fb : Env → Res D} {fs : Env → Res (List D)} {pos p : Pos} {x : Str} {k np : Nat} {f : Addr} {fd : FuncData} {ps : List Str} {g : List D → Res D}
/-- the def of this name keeps its promise -/
def Keeps (P : Program) (w : World) (K : PySem.W.Frag) (mg : Str → Option Value) (base : Heap) (x : Str) (k : Nat) (ps : List Str) (np : Nat) (md : Md) (g : List D → Res D) : Prop :=
  ∃ f fd, mg x = some (.ref f) ∧ PySem.W.keepIn K (.ref f) = true ∧ Binds K fd ps [] ∧ FnOk P w K mg base (L2.CX P w) k f fd ps (spD K mg np md g)
/-- the def of this name as it stands behind the top -/
def DefAt (K : PySem.W.Frag) (mg : Str → Option Value) (x qual : Str) (st : Stmt) (ps : List Str) : Prop := ∃ f fd, Fun K x qual st f fd ∧ Binds K fd ps [] ∧ mg x = some (.ref f)
theorem keeps_of {P : Program} {w : World} {K : PySem.W.Frag} {mg : Str → Option Value} {base : Heap} {x qual : Str} {st : Stmt} {ps N : List Str} {k : Nat} {md : Md} {F : FS} (dA : DefAt K mg x qual st ps) (Sc : FnScope N ps (defScope st)) (hnp : ps.length ≤ N.length)
    (h : ∀ (f : Addr) (cdv : Value) (A : Around) (outer : List PySem.Env) (s : Shared) (H : Hp) (E : XK), Room k (A.deeper (PyProof.Rows.envOfC qual (defScope st) s.heap.objs.size f cdv)) →
      JSs (cxOf (L2.CX P w) P w K mg base N qual (defScope st) f cdv A outer s H E) (fun cls d _ H => E cls d H) ⟨[], [], md⟩ (msh N.length) (msh N.length) (defBody st) F) : Keeps P w K mg base x (k + 1) ps ps.length md (runF N.length md F) := by
  obtain ⟨f, fd, Fn, bd, gl⟩ := dA
  exact ⟨f, fd, gl, Fn.kp, bd, fn_ok Fn Sc hnp (h f)⟩
/-- of what never gives anything -/
theorem keeps_er {P : Program} {w : World} {K : PySem.W.Frag} {mg : Str → Option Value} {base : Heap} {x qual : Str} {st : Stmt} {ps : List Str} {k np : Nat} {md : Md} (dA : DefAt K mg x qual st ps) : Keeps P w K mg base x k ps np md (fun _ => .er) := by
  obtain ⟨f, fd, Fn, bd, gl⟩ := dA
  have no : ∀ vs H Q E, spD K mg np md (fun _ => .er) vs H Q E → False := fun vs H Q E ⟨S, ds, hs, rv, hp⟩ => hp.chkd.2
  exact ⟨f, fd, gl, Fn.kp, bd, ⟨fun vs H Q E h => (no vs H Q E h).elim, fun A outer s H args us vs Q E hr he hb hv h => (no vs H Q E h).elim⟩⟩
theorem Keeps.mono {P : Program} {w : World} {K : PySem.W.Frag} {mg : Str → Option Value} {base : Heap} {x : Str} {ps : List Str} {k k' np : Nat} {md : Md} {g : List D → Res D} (G : Keeps P w K mg base x k ps np md g) (h : k ≤ k') : Keeps P w K mg base x k' ps np md g := by
  obtain ⟨f, fd, e1, e2, e3, G⟩ := G
  exact ⟨f, fd, e1, e2, e3, G.mono h⟩
theorem je_call (G : Keeps X.prog X.w X.K X.mg X.base x k ps np md g) (hr : Room k X.A) (tk : Takes X E)
    (ha : JA X E m (e :: es) fs) (hg : Gl X x := by rfl) (hdb : (x == ("__debug__" : Str)) = false := by decide) (he : starEach (e :: es) X.env = (false, eval e X.env) :: starEach es X.env := by rfl) (hpl : (backTo pos (starEach es X.env)).any (·.1) = false := by rfl) :
    JE X E m md (.Call (.Name x p) (e :: es) [] pos) (fOn (chk np g) fs) := by
  obtain ⟨f, fd, hm, hk, hb, G⟩ := G
  refine ⟨PEimp (pe_callS G hr hg hm hk hb (fun σ => passAt tk σ) ha.pa hdb he hpl) fun σ H Q h => ?_⟩
  obtain ⟨S, ρ, hm, hp⟩ := h
  exact ⟨S, ρ, hm, (Post.bind hp).imp fun ds S1 H1 s1 h1 vs rs => ⟨S1, ds, s1.sub, rs, h1⟩⟩
/-- an own new list that is not kept as one's own -/
theorem je_share (h : JE X E m md e fa) : JE X E m .sh e fa := by
  refine ⟨PEimp h.pe fun σ H Q q => ?_⟩
  obtain ⟨S, ρ, hm, hp⟩ := q
  refine ⟨S, ρ, hm, ?_⟩
  cases ef : fa ρ with
  | ok d =>
    rw [ef] at hp
    intro v S1 H1 fp s1 o hn hf
    let A : Addr → Prop := fun a => a ∈ fp
    have ho : ∀ a, A a → S1 a = none := fun a ha => (o.out ha).1
    refine hp v (take S1 H1 A) H1 [] ⟨s1.hh, s1.ss.trans (take_same s1.sub ho), take_sub s1.sub, fun a x => ?_⟩ ⟨o.shared s1.sub ho fun a ha => ha, rfl⟩ List.nodup_nil (fun a z => nomatch z)
    by_cases z : A a
    · exact .inr (hf a z)
    · rw [take_out z] at x
      exact s1.new a x
  | ex c fs => rw [ef] at hp; exact hp
  | er => rw [ef] at hp; exact hp.elim
end
section
variable {K : PySem.W.Frag} {mg : Str → Option Value}
theorem repl1 {S : Hp} {vs : List V} {d : D} (r : RepL K mg S vs [d]) : ∃ v, vs = [v] ∧ Rep K mg S v d := by
  match vs, r with
  | [], r => have := r.len; simp at this
  | [v], r => exact ⟨v, rfl, r.head⟩
  | _ :: _ :: _, r => have := r.len; simp at this
theorem repl2 {S : Hp} {vs : List V} {d e : D} (r : RepL K mg S vs [d, e]) : ∃ v w, vs = [v, w] ∧ Rep K mg S v d ∧ Rep K mg S w e := by
  match vs, r with
  | [], r => have := r.len; simp at this
  | [v], r => have := r.len; simp at this
  | [v, w], r => exact ⟨v, w, rfl, r.head, r.tail.head⟩
  | _ :: _ :: _ :: _, r => have := r.len; simp at this
/-- a rule of one argument -/
def on1 (g : D → Res D) : List D → Res D
  | [d] => g d
  | _ => .er
def on2 (g : D → D → Res D) : List D → Res D
  | [d, e] => g d e
  | _ => .er
theorem calld1 {md : Md} {r : List V → Hp → VK → Prop} {g : D → Res D} (h : ∀ (E : XK) (S H : Hp) (x : V) (d : D) (Q : VK), Same S H → Rep K mg S x d → Post K mg E S H md (g d) Q → r [x] H Q) : CallD K mg md r (on1 g) := by
  intro E S H xs ds Q hs rv hp
  match ds with
  | [] => exact hp.elim
  | [d] =>
    obtain ⟨v, rfl, rd⟩ := repl1 rv
    exact h E S H v d Q hs rd hp
  | _ :: _ :: _ => exact hp.elim
theorem calld2 {md : Md} {r : List V → Hp → VK → Prop} {g : D → D → Res D} (h : ∀ (E : XK) (S H : Hp) (x y : V) (d e : D) (Q : VK), Same S H → Rep K mg S x d → Rep K mg S y e → Post K mg E S H md (g d e) Q → r [x, y] H Q) : CallD K mg md r (on2 g) := by
  intro E S H xs ds Q hs rv hp
  match ds with
  | [] => exact hp.elim
  | [d] => exact hp.elim
  | [d, e] =>
    obtain ⟨v, w, rfl, rd, re⟩ := repl2 rv
    exact h E S H v w d e Q hs rd re hp
  | _ :: _ :: _ :: _ => exact hp.elim
def dLen : D → Res D
  | .lst xs => .ok (.int xs.length)
  | .frl xs => .ok (.int xs.length)
  | .tup xs => .ok (.int xs.length)
  | .str z => if szOk z.length = true then .ok (.int z.length) else .er
  | _ => .er
theorem calld_len : CallD K mg .sh (fun xs H Q => ∃ x n, xs = [x] ∧ LenV K x H n ∧ Q (.int n) H) (on1 dLen) := calld1 fun E S H x d Q hs rx hp => by
  cases d with
  | lst ds =>
    obtain ⟨a, vs, rfl, ha, rv⟩ := rx.of_lst
    exact ⟨_, vs.length, rfl, .inl ⟨_, .inl (.inl (hs _ _ ha)), rfl⟩, by rw [rv.len]; exact Post.val hp hs (.int _)⟩
  | frl ds =>
    obtain ⟨a, vs, rfl, ha, rv⟩ := rx.of_frl
    exact ⟨_, vs.length, rfl, .inl ⟨_, same_l hs ha, rfl⟩, by rw [rv.len]; exact Post.val hp hs (.int _)⟩
  | tup ds =>
    obtain ⟨a, vs, rfl, ha, rv⟩ := rx.of_tup
    exact ⟨_, vs.length, rfl, .inr ⟨_, same_t hs ha, rfl⟩, by rw [rv.len]; exact Post.val hp hs (.int _)⟩
  | str z =>
    obtain ⟨hz, hp⟩ := Post.of_if hp
    cases rx
    exact ⟨_, z.length, rfl, ⟨szOk_ok hz, rfl⟩, hp.val hs (.int _)⟩
  | _ => exact hp.elim
def dInt : D → Res D
  | .int i => .ok (.int i)
  | .bl b => .ok (.int (if b then 1 else 0))
  | _ => .er
def dAbs : D → Res D
  | .int i => .ok (.int (if i < 0 then -i else i))
  | _ => .er
def dMax2 : D → D → Res D
  | .int i, .int j => .ok (.int (if j > i then j else i))
  | _, _ => .er
def dMin2 : D → D → Res D
  | .int i, .int j => .ok (.int (if j < i then j else i))
  | _, _ => .er
end
section
variable {X : Cx} {E : WX} {m : Mds} {md : Md} {a b e : Expr} {es : List Expr} {fs : Env → Res (List D)} {pos p : Pos}
theorem je_len (hm : X.mg "len" = none) (ha : JA X E m [e] fs) (hg : Gl X "len" := by rfl) (he : starEach [e] X.env = (false, eval e X.env) :: starEach [] X.env := by rfl) : JE X E m .sh (.Call (.Name "len" p) [e] [] pos) (fOn (on1 dLen) fs) :=
  je_callB call_len calld_len hm ha hg boot_len (by decide) (by decide) he (by rfl)
theorem je_int_ (hm : X.mg "int" = none) (ha : JA X E m [e] fs) (hg : Gl X "int" := by rfl) (he : starEach [e] X.env = (false, eval e X.env) :: starEach [] X.env := by rfl) : JE X E m .sh (.Call (.Name "int" p) [e] [] pos) (fOn (on1 dInt) fs) :=
  je_callTy call_int1 (calld1 fun E S H x d Q hs rx hp => by
    cases d with
    | int i => cases rx; exact .inl ⟨i, rfl, Post.val hp hs (.int _)⟩
    | bl i => cases rx; exact .inr ⟨i, rfl, Post.val hp hs (.int _)⟩
    | _ => exact hp.elim) hm ha hg (by decide +kernel) (by decide) (by decide) he (by rfl)
theorem je_max2 (hm : X.mg "max" = none) (ha : JA X E m [a, b] fs) (hc : X.calm = true := by rfl) (hg : Gl X "max" := by rfl) (he : starEach [a, b] X.env = (false, eval a X.env) :: starEach [b] X.env := by rfl) (hpl : (backTo pos (starEach [b] X.env)).any (·.1) = false := by rfl) : JE X E m .sh (.Call (.Name "max" p) [a, b] [] pos) (fOn (on2 dMax2) fs) :=
  je_callB (call_max2 hc) (calld2 fun E S H x y d e Q hs rx ry hp => by
    cases d with
    | int i =>
      cases e with
      | int j => cases rx; cases ry; exact ⟨i, j, rfl, Post.val hp hs (.int _)⟩
      | _ => exact hp.elim
    | _ => exact hp.elim) hm ha hg (by decide +kernel) (by decide) (by decide) he hpl
theorem je_min2 (hm : X.mg "min" = none) (ha : JA X E m [a, b] fs) (hc : X.calm = true := by rfl) (hg : Gl X "min" := by rfl) (he : starEach [a, b] X.env = (false, eval a X.env) :: starEach [b] X.env := by rfl) (hpl : (backTo pos (starEach [b] X.env)).any (·.1) = false := by rfl) : JE X E m .sh (.Call (.Name "min" p) [a, b] [] pos) (fOn (on2 dMin2) fs) :=
  je_callB (call_min2 hc) (calld2 fun E S H x y d e Q hs rx ry hp => by
    cases d with
    | int i =>
      cases e with
      | int j => cases rx; cases ry; exact ⟨i, j, rfl, Post.val hp hs (.int _)⟩
      | _ => exact hp.elim
    | _ => exact hp.elim) hm ha hg (by decide +kernel) (by decide) (by decide) he hpl
end
end Da
namespace Da
open PySem PySem.Spec L2
mutual
def D.py : D → Option PyData
  | .non => some .none
  | .bl b => some (.bool b)
  | .int i => some (.int i)
  | .str x => some (.str x)
  | .lst xs => match D.pys xs with
    | some ys => some (.list ys)
    | none => none
  | .tup xs => match D.pys xs with
    | some ys => some (.tuple ys)
    | none => none
  | _ => none
def D.pys : List D → Option (List PyData)
  | [] => some []
  | x :: xs => match D.py x, D.pys xs with
    | some y, some ys => some (y :: ys)
    | _, _ => none
end
section
variable {K : PySem.W.Frag} {mg : Str → Option Value} {S : Hp}
mutual
theorem dp_of : ∀ (d : D) (v : V) (y : PyData), Rep K mg S v d → D.py d = some y → Dp K S v y
  | .non, v, y, h, e => by cases h; cases e; exact .non
  | .bl b, v, y, h, e => by cases h; cases e; exact .bl b
  | .int i, v, y, h, e => by cases h; cases e; exact .int i
  | .str x, v, y, h, e => by cases h; cases e; exact .str x
  | .lst xs, v, y, h, e => by
    unfold D.py at e
    split at e
    · rename_i ys ey
      cases e
      obtain ⟨a, vs, rfl, ha, r⟩ := h.of_lst
      exact .lst (.inl (.inl ha)) (dps_of xs vs ys r ey)
    · cases e
  | .tup xs, v, y, h, e => by
    unfold D.py at e
    split at e
    · rename_i ys ey
      cases e
      obtain ⟨a, vs, rfl, ha, r⟩ := h.of_tup
      exact .tup ha (dps_of xs vs ys r ey)
    · cases e
  | .frl xs, v, y, h, e => by simp [D.py] at e
  | .dic ks vs, v, y, h, e => by simp [D.py] at e
  | .dit ks vs, v, y, h, e => by simp [D.py] at e
  | .obj c ns vs, v, y, h, e => by simp [D.py] at e
theorem dps_of : ∀ (ds : List D) (vs : List V) (ys : List PyData), RepL K mg S vs ds → D.pys ds = some ys → DpAll K S vs ys
  | [], vs, ys, r, e => by
    cases e
    rw [r.nil_iff.mpr rfl]
    exact .nil
  | d :: ds, vs, ys, r, e => by
    unfold D.pys at e
    split at e
    · rename_i y ys' e1 e2
      cases e
      match vs, r with
      | [], r => have := r.len; simp at this
      | v :: vs, r => exact .cons (dp_of d v y r.head e1) (dps_of ds vs ys' r.tail e2)
    · cases e
end
theorem dp_mono {H : Hp} (h : Same S H) : ∀ {v : V} {y : PyData}, Dp K S v y → Dp K H v y := fun {v y} x => Dp.rec (motive_1 := fun v y _ => Dp K H v y) (motive_2 := fun vs ys _ => DpAll K H vs ys)
  .non .bl .int .str (fun a _ ih => .lst (same_l h a) ih) (fun a _ ih => .tup (same_t h a) ih) .nil (fun _ _ a b => .cons a b) x
end
/-- are they equal -/
def eqD (x y : D) : Res Bool := match D.py x, D.py y with
  | some a, some b => if (SeqAt.shaped a && SeqAt.shaped b) = true then .ok (PyData.eqv a b) else .er
  | _, _ => .er
def dEq (x y : D) : Res D := (eqD x y).bind fun b => .ok (.bl b)
def dNe (x y : D) : Res D := (eqD x y).bind fun b => .ok (.bl (!b))
/-- is one among them -/
def inD (x : D) (ys : List D) : Res Bool := match D.py x, D.pys ys with
  | some a, some bs => if (SeqAt.shaped a && SeqAt.shaped (.list bs)) = true then .ok (bs.any fun z => PyData.eqv z a) else .er
  | _, _ => .er
def dNotIn (x y : D) : Res D := match y with
  | .lst ys => (inD x ys).bind fun b => .ok (.bl (!b))
  | .tup ys => (inD x ys).bind fun b => .ok (.bl (!b))
  | _ => .er
section
variable {K : PySem.W.Frag} {mg : Str → Option Value} {E : XK} {S H : Hp}
theorem eqD_ok {x y : D} {r : Bool → Res D} {Q : VK} (h : Post K mg E S H .sh ((eqD x y).bind r) Q) : ∃ a b, D.py x = some a ∧ D.py y = some b ∧ SeqAt.shaped a = true ∧ SeqAt.shaped b = true ∧ Post K mg E S H .sh (r (PyData.eqv a b)) Q := by
  unfold eqD at h
  split at h
  · rename_i a b ea eb
    split at h
    · rename_i hs
      have hs := Bool.and_eq_true_iff.mp hs
      exact ⟨a, b, ea, eb, hs.1, hs.2, h⟩
    · exact h.elim
  · exact h.elim
theorem inD_ok {x : D} {ys : List D} {r : Bool → Res D} {Q : VK} (h : Post K mg E S H .sh ((inD x ys).bind r) Q) : ∃ a bs, D.py x = some a ∧ D.pys ys = some bs ∧ SeqAt.shaped a = true ∧ SeqAt.shaped (.list bs) = true ∧ Post K mg E S H .sh (r (bs.any fun z => PyData.eqv z a)) Q := by
  unfold inD at h
  split at h
  · rename_i a b ea eb
    split at h
    · rename_i hs
      have hs := Bool.and_eq_true_iff.mp hs
      exact ⟨a, b, ea, eb, hs.1, hs.2, h⟩
    · exact h.elim
  · exact h.elim
theorem opd_eq : OpD K mg .sh (rEqD K) dEq := by
  intro E S H x y dx dy Q hs rx ry h
  obtain ⟨a, b, ea, eb, sa, sb, h⟩ := eqD_ok h
  exact ⟨a, b, dp_mono hs (dp_of dx x a rx ea), dp_mono hs (dp_of dy y b ry eb), sa, sb, Post.val h hs (.bl _)⟩
theorem opd_ne : OpD K mg .sh (rNeD K) dNe := by
  intro E S H x y dx dy Q hs rx ry h
  obtain ⟨a, b, ea, eb, sa, sb, h⟩ := eqD_ok h
  exact ⟨a, b, dp_mono hs (dp_of dx x a rx ea), dp_mono hs (dp_of dy y b ry eb), sa, sb, Post.val h hs (.bl _)⟩
end
theorem canLayL {bs : List PyData} (h : SeqAt.shaped (.list bs) = true) : PyData.canLayAll0 bs = true := by
  have := SeqAt.canLay_of_shaped h
  unfold PyData.canLay0 at this
  exact this
section
variable {X : Cx}
def rNotInT (K : PySem.W.Frag) : R2 := fun x y H Q => ∃ d ds, Dp K H x d ∧ Dp K H y (.tuple ds) ∧ SeqAt.shaped d = true ∧ SeqAt.shaped (.list ds) = true ∧ Q (.bl (!ds.any fun z => PyData.eqv z d)) H
theorem room_in {A : Around} {d : PyData} {ds : List PyData} (hd : SeqAt.shaped d = true) (hu : A.units + 65 < cLine) : A.units + 1 + min (PyData.depthAll ds) d.depth < cLine := by
  have h1 := SeqAt.depth_of_shaped hd
  have h2 := Nat.min_le_right (PyData.depthAll ds) d.depth
  omega
theorem op_notInT (hu : X.A.units + 65 < cLine) : OpR X (compareOp .NotIn) (rNotInT X.K) := fun pins s σ H x y v u Q I rx ry h => by
  obtain ⟨d, ds, hd, he, sd, se, q⟩ := h
  obtain ⟨as, r1⟩ := Dp.reads I d x v hd rx
  obtain ⟨bs, r2⟩ := Dp.reads I (.tuple ds) y u he ry
  exact SeqAt.notIn_tuple_reads r2 r1 (canLayL se) (SeqAt.canLay_of_shaped sd) (room_in sd hu) ⟨.bl _, H, I, rfl, q⟩
end
section
variable {K : PySem.W.Frag} {mg : Str → Option Value}
theorem pys_lst {ys : List D} {bs : List PyData} (h : D.pys ys = some bs) : D.py (.lst ys) = some (.list bs) := by unfold D.py; rw [h]
theorem pys_tup {ys : List D} {bs : List PyData} (h : D.pys ys = some bs) : D.py (.tup ys) = some (.tuple bs) := by unfold D.py; rw [h]
theorem opd_notIn : OpD K mg .sh (fun x y H Q => rNotInD K x y H Q ∨ rNotInT K x y H Q) dNotIn := by
  intro E S H x y dx dy Q hs rx ry h
  cases dy with
  | lst ys =>
    obtain ⟨a, bs, ea, eb, sa, sb, h⟩ := inD_ok h
    exact .inl ⟨a, bs, dp_mono hs (dp_of dx x a rx ea), dp_mono hs (dp_of _ y _ ry (pys_lst eb)), sa, sb, Post.val h hs (.bl _)⟩
  | tup ys =>
    obtain ⟨a, bs, ea, eb, sa, sb, h⟩ := inD_ok h
    exact .inr ⟨a, bs, dp_mono hs (dp_of dx x a rx ea), dp_mono hs (dp_of _ y _ ry (pys_tup eb)), sa, sb, Post.val h hs (.bl _)⟩
  | _ => exact h.elim
def dIsN : D → Res D
  | .non => .ok (.bl true)
  | _ => .ok (.bl false)
def dIsB (c : Bool) : D → Res D
  | .bl b => .ok (.bl (b == c))
  | _ => .ok (.bl false)
theorem non_iff {S : Hp} {v : V} {d : D} (r : Rep K mg S v d) : dIsN d = .ok (.bl (decide (v = .non))) := by
  cases r <;> rfl
theorem bl_iff {S : Hp} {v : V} {d : D} {c : Bool} (r : Rep K mg S v d) : dIsB c d = .ok (.bl (decide (v = .bl c))) := by
  cases r with
  | bl b => cases b <;> cases c <;> rfl
  | _ => rfl
end
section
variable {X : Cx}
def rIsB1 (c : Bool) : R2 := fun x y H Q => y = .bl c ∧ Q (.bl (decide (x = .bl c))) H
theorem plainB {x : V} {v : Value} {c : Bool} (r : RelV x v) : plainIs v (.bool c) = true ∧ (decide (x = .bl c) = (v == .bool c)) := by
  cases x with
  | non => cases r; exact ⟨rfl, rfl⟩
  | bl b => cases r; cases b <;> cases c <;> exact ⟨rfl, rfl⟩
  | int i => obtain ⟨t, rfl⟩ := r; exact ⟨rfl, rfl⟩
  | str i => obtain ⟨t, rfl⟩ := r; exact ⟨rfl, rfl⟩
  | byt i => obtain ⟨t, rfl⟩ := r; exact ⟨rfl, rfl⟩
  | flt i => obtain ⟨t, rfl⟩ := r; exact ⟨rfl, rfl⟩
  | ref a => cases r; exact ⟨rfl, rfl⟩
  | ty n => cases r; exact ⟨rfl, rfl⟩
theorem op_isB1 (c : Bool) : OpR X (compareOp .Is) (rIsB1 c) := fun pins s σ H x y v u Q I rx ry h => by
  obtain ⟨rfl, q⟩ := h
  cases ry
  obtain ⟨h1, h2⟩ := plainB (c := c) rx
  exact wpAny_is_plain h1 ⟨.bl _, H, I, by rw [← h2]; rfl, q⟩
end
section
variable {X : Cx} {E : WX} {m : Mds} {md : Md} {a b e : Expr} {es : List Expr} {fa fb : Env → Res D} {fs : Env → Res (List D)} {pos p pc : Pos} {k j : Nat}
/-- room for what asks no call's depth -/
def RmU (A : Around) : Prop := A.units + 200 < cLine
theorem _root_.L2.Room.u {A : Around} {k : Nat} (hr : Room k A) : RmU A := by have := hr.un; unfold RmU; omega
theorem hu65 {A : Around} (hr : RmU A) : A.units + 65 < cLine := by unfold RmU at hr; omega
theorem hu64 {A : Around} (hr : RmU A) : A.units + 64 < cLine := by unfold RmU at hr; omega
theorem je_eq (hr : RmU X.A) (ha : JE X E m .sh a fa) (hb : JE X E m .sh b fb) : JE X E m .sh (.Compare a [.Eq] [b] pos) (f2 dEq fa fb) := je_cmp (op_eqD (hu64 hr)) opd_eq ha hb (nomark _)
theorem jt_eq (hr : RmU X.A) (ha : JE X E m .sh a fa) (hb : JE X E m .sh b fb) : JT X E m (.Compare a [.Eq] [b] pos) (fB (f2 dEq fa fb)) := jt_cmp (op_eqD (hu64 hr)) opd_eq ha hb (nomark _)
theorem jt_ne (hr : RmU X.A) (ha : JE X E m .sh a fa) (hb : JE X E m .sh b fb) : JT X E m (.Compare a [.NotEq] [b] pos) (fB (f2 dNe fa fb)) := jt_cmp (op_neD (hu64 hr)) opd_ne ha hb (nomark _)
theorem jt_notIn (hr : RmU X.A) (ha : JE X E m .sh a fa) (hb : JE X E m .sh b fb) (hm : behindInMarks .NotIn b = false := by rfl) : JT X E m (.Compare a [.NotIn] [b] pos) (fB (f2 dNotIn fa fb)) := jt_cmp (OpR.or (op_notInD (hu65 hr)) (op_notInT (hu65 hr))) opd_notIn ha hb hm
theorem un_tE {K : PySem.W.Frag} {mg : Str → Option Value} {r : R2} {g : D → Res D} {c : V} {d0 : D} (hr : ∀ (E : XK) (S H : Hp) (x : V) (d : D) (Q : VK), Same S H → Rep K mg S x d → Post K mg E S H .sh (g d) Q → r x c H Q) {σ : L2.St} {H : Hp} {Q : VK}
    (h : tE K mg E m .sh (f1 g fa) σ H Q) : tOp r (tE K mg E m .sh fa) (tC c) σ H Q := by
  obtain ⟨S, ρ, hm, hp⟩ := h
  exact ⟨S, ρ, hm, (Post.bind hp).post fun dx v S1 H1 s1 r1 h1 => hr _ S1 H1 v dx Q s1.sub r1 h1⟩
theorem isN_ok {K : PySem.W.Frag} {mg : Str → Option Value} (E : XK) (S H : Hp) (x : V) (d : D) (Q : VK) (hs : Same S H) (r : Rep K mg S x d) (h : Post K mg E S H .sh (dIsN d) Q) : Q (.bl (decide (x = .non))) H := by
  rw [non_iff r] at h
  exact h.val hs (.bl _)
theorem isB_ok {K : PySem.W.Frag} {mg : Str → Option Value} {c : Bool} (E : XK) (S H : Hp) (x : V) (d : D) (Q : VK) (hs : Same S H) (r : Rep K mg S x d) (h : Post K mg E S H .sh (dIsB c d) Q) : Q (.bl (decide (x = .bl c))) H := by
  rw [bl_iff r] at h
  exact h.val hs (.bl _)
theorem tT_of {K : PySem.W.Frag} {mg : Str → Option Value} {f : Env → Res D} {t : TE} (ht : ∀ σ H Q, tE K mg E m .sh f σ H Q → t σ H Q) {σ : L2.St} {H : Hp} {Q : Bool → Hp → Prop} (h : tT K mg E m (fB f) σ H Q) : tTest t σ H Q := by
  obtain ⟨S, ρ, hm, hp⟩ := h
  refine ht σ H _ ⟨S, ρ, hm, (PostW.bind hp).post fun d v S1 H1 s1 r k => ?_⟩
  cases d with
  | bl c => cases r; exact ⟨c, rfl, k S1 H1 (Step.refl s1.sub)⟩
  | _ => exact k.elim
theorem je_isN (ha : JE X E m .sh a fa) : JE X E m .sh (.Compare a [.Is] [.Constant .none j pc] pos) (f1 dIsN fa) := ⟨PEimp (pe_cmpR op_isN ha.pe pe_non (nomark _)) fun σ H Q h => un_tE (d0 := .non) (fun E S H x d Q hs r h => ⟨rfl, isN_ok E S H x d Q hs r h⟩) h⟩
theorem je_isB {c : Bool} (ha : JE X E m .sh a fa) : JE X E m .sh (.Compare a [.Is] [.Constant (.bool c) j pc] pos) (f1 (dIsB c) fa) := ⟨PEimp (pe_cmpR (op_isB1 c) ha.pe pe_bl (nomark _)) fun σ H Q h => un_tE (d0 := .non) (fun E S H x d Q hs r h => ⟨rfl, isB_ok E S H x d Q hs r h⟩) h⟩
theorem jt_isN (ha : JE X E m .sh a fa) : JT X E m (.Compare a [.Is] [.Constant .none j pc] pos) (fB (f1 dIsN fa)) := ⟨PTimp (pt_cmpR op_isN ha.pe pe_non (nomark _)) fun σ H Q h => tT_of (fun σ H Q h => un_tE (d0 := .non) (fun E S H x d Q hs r h => ⟨rfl, isN_ok E S H x d Q hs r h⟩) h) h⟩
theorem jt_isB {c : Bool} (ha : JE X E m .sh a fa) : JT X E m (.Compare a [.Is] [.Constant (.bool c) j pc] pos) (fB (f1 (dIsB c) fa)) := ⟨PTimp (pt_cmpR (op_isB1 c) ha.pe pe_bl (nomark _)) fun σ H Q h => tT_of (fun σ H Q h => un_tE (d0 := .non) (fun E S H x d Q hs r h => ⟨rfl, isB_ok E S H x d Q hs r h⟩) h) h⟩
end
def tyNm : D → Option String
  | .non => some "NoneType"
  | .bl _ => some "bool"
  | .int _ => some "int"
  | .str _ => some "str"
  | .lst _ => some "list"
  | .frl _ => some "list"
  | .tup _ => some "tuple"
  | .dic _ _ => some "dict"
  | .dit _ _ => some "dict"
  | .obj _ _ _ => none
  | .exc _ _ _ => none
def isTy (T : String) (d : D) : Res Bool := match tyNm d with
  | some a => (match kitB a T with
    | some b => .ok b
    | none => .er)
  | none => .er
def dIsi (T : String) (d : D) : Res D := (isTy T d).bind fun b => .ok (.bl b)
def dIsi2 (T U : String) (d : D) : Res D := (isTy T d).bind fun b => if b = true then .ok (.bl true) else (isTy U d).bind fun c => .ok (.bl c)
section
variable {K : PySem.W.Frag} {mg : Str → Option Value}
theorem tyx_of {S H : Hp} {v : V} {d : D} {a : String} (hs : Same S H) (r : Rep K mg S v d) (h : tyNm d = some a) : TyX K H v (.type a) := by
  cases r with
  | non => cases h; exact .base .non
  | bl b => cases h; exact .base (.bl b)
  | int b => cases h; exact .base (.int b)
  | str b => cases h; exact .base (.str b)
  | lst e => cases h; exact .base (.lst (hs _ _ e))
  | frl e =>
    cases h
    rcases e with (e | ⟨o, e⟩) | ⟨o, its, n, e, c, _⟩
    · exact .base (.lst (hs _ _ e))
    · exact .base (.frz (hs _ _ e))
    · exact .kList e c
  | tup e =>
    cases h
    exact .base (.tup (hs _ _ e))
  | dic e =>
    cases h
    rcases e with e | ⟨o, e⟩
    · exact .base (.dK (hs _ _ e))
    · exact .fDict (hs _ _ e)
  | dit e => cases h; exact .base (.dT (hs _ _ e))
  | exc => cases h
  | obj e => cases h
theorem isTy_ok {S H : Hp} {v : V} {d : D} {T : String} {b : Bool} (hs : Same S H) (r : Rep K mg S v d) (h : isTy T d = .ok b) : ∃ t, TyX K H v t ∧ PySem.W.kitOne K t (.type T) = some b := by
  unfold isTy at h
  split at h
  · rename_i a ea
    split at h
    · rename_i c ec
      injection h with h
      subst h
      exact ⟨.type a, tyx_of hs r ea, kit_ty ec⟩
    · cases h
  · cases h
end
section
variable {X : Cx} {E : WX} {m : Mds} {md : Md} {a b e : Expr} {es : List Expr} {fa fb : Env → Res D} {fs : Env → Res (List D)} {pos p p1 p2 p3 : Pos} {x1 : Nat}
theorem isTy_post {K : PySem.W.Frag} {mg : Str → Option Value} {E : XK} {S H : Hp} {T : String} {d : D} {r : Bool → Res D} {Q : VK} (h : Post K mg E S H .sh ((isTy T d).bind r) Q) : ∃ b, isTy T d = .ok b ∧ Post K mg E S H .sh (r b) Q := by
  cases e : isTy T d with
  | ok b => rw [e] at h; exact ⟨b, rfl, h⟩
  | ex c fs =>
    exfalso
    unfold isTy at e
    split at e
    · split at e <;> cases e
    · cases e
  | er => rw [e] at h; exact h.elim
theorem je_isi (T : String) {nT : Str} (hm : X.mg "isinstance" = none) (hT : X.mg nT = none) (ha : JE X E m .sh a fa) (hv : bootBuiltins nT = some (.type T) := by decide +kernel) (hg : Gl X "isinstance" := by rfl) (hgT : Gl X nT := by rfl) (hn : nT ≠ "__name__" := by decide) (hdb : (nT == ("__debug__" : Str)) = false := by decide)
    (he : starEach [a, .Name nT p2] X.env = (false, eval a X.env) :: starEach [.Name nT p2] X.env := by rfl) (he2 : starEach [.Name nT p2] X.env = (false, eval (.Name nT p2) X.env) :: starEach [] X.env := by rfl) (hpl : (backTo pos (starEach [.Name nT p2] X.env)).any (·.1) = false := by rfl) :
    JE X E m .sh (.Call (.Name "isinstance" p) [a, .Name nT p2] [] pos) (f1 (dIsi T) fa) := by
  refine ⟨PEimp (pe_callB call_isi hg hm (by decide +kernel) (pa_cons ha.pe (pa_cons (pe_bltn (v := .ty T) hgT hT hv rfl hn hdb) pa_nil he2) he) (by decide) (by decide) he hpl) fun σ H Q h => ?_⟩
  obtain ⟨S, ρ, hm, hp⟩ := h
  refine ⟨S, ρ, hm, (Post.bind hp).post fun d v S1 H1 s1 r k => ?_⟩
  obtain ⟨bb, eb, k⟩ := isTy_post k
  obtain ⟨t, ty, kt⟩ := isTy_ok s1.sub r eb
  exact ⟨v, .ty T, t, .type T, bb, rfl, .ty T, ty, kt, k.val s1.sub (.bl _)⟩
theorem je_isi2 (T U : String) {nT nU : Str} (hm : X.mg "isinstance" = none) (hT : X.mg nT = none) (hU : X.mg nU = none) (ha : JE X E m .sh a fa) (hv : bootBuiltins nT = some (.type T) := by decide +kernel) (hvU : bootBuiltins nU = some (.type U) := by decide +kernel) (hg : Gl X "isinstance" := by rfl)
    (hgT : Gl X nT := by rfl) (hgU : Gl X nU := by rfl) (hn : nT ≠ "__name__" := by decide) (hdb : (nT == ("__debug__" : Str)) = false := by decide) (hnU : nU ≠ "__name__" := by decide) (hdbU : (nU == ("__debug__" : Str)) = false := by decide)
    (he : starEach [a, .Tuple [.Name nT p2, .Name nU p3] x1 p1] X.env = (false, eval a X.env) :: starEach [.Tuple [.Name nT p2, .Name nU p3] x1 p1] X.env := by rfl)
    (he2 : starEach [.Tuple [.Name nT p2, .Name nU p3] x1 p1] X.env = (false, eval (.Tuple [.Name nT p2, .Name nU p3] x1 p1) X.env) :: starEach [] X.env := by rfl) (hpl : (backTo pos (starEach [.Tuple [.Name nT p2, .Name nU p3] x1 p1] X.env)).any (·.1) = false := by rfl)
    (ht1 : starEach [.Name nT p2, .Name nU p3] X.env = (false, eval (.Name nT p2) X.env) :: starEach [.Name nU p3] X.env := by rfl) (ht2 : starEach [.Name nU p3] X.env = (false, eval (.Name nU p3) X.env) :: starEach [] X.env := by rfl) :
    JE X E m .sh (.Call (.Name "isinstance" p) [a, .Tuple [.Name nT p2, .Name nU p3] x1 p1] [] pos) (f1 (dIsi2 T U) fa) := by
  refine ⟨PEimp (pe_callB call_isiT hg hm (by decide +kernel) (pa_cons ha.pe (pa_cons (pe_tup (pa_cons (pe_bltn (v := .ty T) hgT hT hv rfl hn hdb) (pa_cons (pe_bltn (v := .ty U) hgU hU hvU rfl hnU hdbU) pa_nil ht2) ht1)) pa_nil he2) he) (by decide) (by decide) he hpl) fun σ H Q h => ?_⟩
  obtain ⟨S, ρ, hm, hp⟩ := h
  refine ⟨S, ρ, hm, (Post.bind hp).post fun d v S1 H1 s1 r k => ⟨by show 2 ≤ sizeLine; decide, fun tp ntp => ?_⟩⟩
  obtain ⟨bb, eb, k⟩ := isTy_post k
  have s2 := Step.laid (o := .tup [V.ty T, V.ty U]) s1.sub ntp
  obtain ⟨t, ty, kt⟩ := isTy_ok (s1.sub.trans s2.hh) r eb
  cases bb with
  | true => exact ⟨v, tp, [.ty T, .ty U], t, [.type T, .type U], true, rfl, upd_same, .cons (.ty T) (.cons (.ty U) .nil), ty, kitAny_cons kt (fun z => nomatch z) (fun _ => rfl), (Post.step s2 k).val s2.sub (.bl _)⟩
  | false =>
    obtain ⟨cc, ec, k⟩ := isTy_post k
    have e' : tyNm d = tyNm d := rfl
    unfold isTy at eb ec
    split at eb
    · rename_i a' ea
      rw [ea] at ec
      have ec : (match kitB a' U with
        | some b => Res.ok b
        | none => .er) = .ok cc := ec
      split at eb
      · rename_i b1 k1
        split at ec
        · rename_i b2 k2
          cases eb; cases ec
          have ty' := tyx_of (s1.sub.trans s2.hh) r ea
          exact ⟨v, tp, [.ty T, .ty U], .type a', [.type T, .type U], _, rfl, upd_same, .cons (.ty T) (.cons (.ty U) .nil), ty', kitAny_cons (kit_ty k1) (fun _ => kitAny_cons (kit_ty k2) (fun h => by subst h; exact kitAny_nil) (fun h => h)) (fun z => nomatch z), (Post.step s2 k).val s2.sub (.bl _)⟩
        · cases ec
      · cases eb
    · cases eb
end
def isSc : D → Bool
  | .non => true
  | .bl _ => true
  | .int _ => true
  | .str _ => true
  | _ => false
def fSc (f : Env → Res D) : Env → Res D := fun ρ => match f ρ with
  | .ok d => if isSc d = true then .ok d else .er
  | _ => .er
def fNx {α : Type} (f : Env → Res α) : Env → Res α := fun ρ => match f ρ with
  | .ok d => .ok d
  | _ => .er
section
variable {K : PySem.W.Frag} {mg : Str → Option Value} {m m1 : Mds} {S H : Hp} {σ : L2.St} {ρ : Env}
/-- all slots as shared ones -/
theorem EnvM.peek (h : EnvM K mg m S H σ ρ) (w : Weak m m1) : ∃ S', Same S S' ∧ EnvM K mg m1 S' H σ ρ := by
  obtain ⟨hs, F, e⟩ := h
  have st : StF K mg m (fun _ => none) (fun _ => none) S F σ ρ H := ⟨⟨(fun a o z => nomatch z), (fun a o z => nomatch z), hs, (fun a _ => .inr rfl)⟩, e, fun i d _ a _ => rfl⟩
  obtain ⟨S', F', st', ss⟩ := st.weak w
  exact ⟨S', ss, st'.envM⟩
theorem Rep.sc {S S' : Hp} {v : V} {d : D} (h : Rep K mg S v d) (hd : isSc d = true) : Rep K mg S' v d := by
  cases h with
  | non => exact .non
  | bl b => exact .bl b
  | int b => exact .int b
  | str b => exact .str b
  | _ => cases hd
end
section
variable {X : Cx} {E : WX} {m m1 : Mds} {md : Md} {a b e : Expr} {es : List Expr} {f fa fb : Env → Res D} {g : Env → Res Bool} {pos p : Pos} {x : Str}
theorem je_borrow (h : JE X E m1 .sh e f) (w : Weak m m1 := by first | exact Weak.of (by decide) | exact weak_sh _ | (repeat (first | exact Weak.refl _ | exact weak_sh _ | apply Weak.cons | apply Weak.consSh))) : JE X E m .sh e (fSc f) := by
  refine ⟨PEimp h.pe fun σ H Q q => ?_⟩
  obtain ⟨S, ρ, hm, hp⟩ := q
  obtain ⟨S', ss, hm'⟩ := hm.peek w
  refine ⟨S', ρ, hm', ?_⟩
  unfold fSc at hp
  split at hp
  · rename_i d ed
    obtain ⟨hd, hp⟩ := Post.of_if hp
    rw [ed]
    intro v S1 H1 fp s1 o _ _
    exact hp v S H1 [] ⟨s1.hh, Same.refl _, hm.1.trans s1.hh, fun _ x => .inl x⟩ ⟨o.1.sc hd, rfl⟩ List.nodup_nil (fun a z => nomatch z)
  · exact hp.elim
theorem jt_borrow (h : JT X E m1 e g) (w : Weak m m1 := by first | exact Weak.of (by decide) | exact weak_sh _ | (repeat (first | exact Weak.refl _ | exact weak_sh _ | apply Weak.cons | apply Weak.consSh))) : JT X E m e (fNx g) := by
  refine ⟨PTimp h.pt fun σ H Q q => ?_⟩
  obtain ⟨S, ρ, hm, hp⟩ := q
  obtain ⟨S', ss, hm'⟩ := hm.peek w
  refine ⟨S', ρ, hm', ?_⟩
  unfold fNx at hp
  split at hp
  · rename_i d ed
    rw [ed]
    intro S1 H1 s1
    exact hp S H1 ⟨s1.hh, Same.refl _, hm.1.trans s1.hh, fun _ x => .inl x⟩
  · exact hp.elim
/-- an item of an own list: shared data -/
theorem je_itemO (i : Nat) (hb : JE X E m .sh b fb) (hmd : IsOw (mdAt m i) := by first | exact .inl rfl | exact .inr ⟨_, rfl⟩) (hN : X.N[i]? = some x := by rfl) (hv : Vis X.env.scope x := by first | exact Or.inl rfl | exact Or.inr (Or.inl rfl) | exact Or.inr (Or.inr rfl)) (hd : (x == ("__debug__" : Str)) = false := by decide)
    (hcd : (x == ("__classdict__" : Str)) = false := by decide) (hs : PlainIx b := by intro _ _; rfl) : JE X E m .sh (.Subscript (.Name x p) b pos) (f2 dIx (fV i) fb) := by
  refine ⟨PEimp (pe_ix ix_seq (pe_var hN hv hd hcd) hb.pe hs) fun σ H Q h => ?_⟩
  obtain ⟨S, ρ, hm, hp⟩ := h
  obtain ⟨hsub, F, e⟩ := id hm
  unfold f2 fV at hp
  split at hp
  · rename_i d ed
    obtain ⟨v, e1, o⟩ := e.at_ i d ed
    obtain ⟨q, vs, ds, rfl, rfl, e3, e4, e5, e6⟩ : ∃ q vs ds, v = .ref q ∧ d = .lst ds ∧ F i = [q] ∧ S q = none ∧ H q = some (.lst vs) ∧ RepL X.K X.mg S vs ds := by
      rcases hmd with hmd | ⟨q0, hmd⟩
      · rw [hmd] at o
        exact o
      · rw [hmd] at o
        exact o.2
    have hp : Post X.K X.mg (WE E σ) S H .sh ((fb ρ).bind fun y => dIx (.lst ds) y) Q := hp
    refine ⟨_, e1, S, ρ, hm, (Post.bind hp).post fun dy y S1 H1 s1 r k => ?_⟩
    cases dy with
    | int j =>
      cases r
      simp only [dIx] at k
      split at k
      · rename_i d' ed'
        obtain ⟨v', ev, rv⟩ := e6.atI ed'
        exact .inl ⟨q, vs, j, v', rfl, rfl, .inl (.inl (s1.hh _ _ e5)), ev, k.val s1.sub (rv.mono s1.ss)⟩
      · exact k.elim
    | _ => exact k.elim
  · exact hp.elim
end
end Da
namespace Da
open PySem PySem.Spec L2
def trD : D → Res Bool
  | .non => .ok false
  | .bl b => .ok b
  | .int i => .ok (i != 0)
  | .str z => if szOk z.length = true then .ok ((z.length : Int) != 0) else .er
  | .lst xs => .ok (!xs.isEmpty)
  | .frl xs => .ok (!xs.isEmpty)
  | .tup xs => .ok (!xs.isEmpty)
  | _ => .er
def fTr (f : Env → Res D) : Env → Res Bool := fun ρ => (f ρ).bind trD
section
variable {K : PySem.W.Frag} {mg : Str → Option Value}
theorem RepL.empty {S : Hp} {vs : List V} {ds : List D} (r : RepL K mg S vs ds) : (!ds.isEmpty) = !vs.isEmpty := by
  have := r.len
  cases vs with
  | nil =>
    cases ds with
    | nil => rfl
    | cons _ _ => simp at this
  | cons _ _ =>
    cases ds with
    | nil => simp at this
    | cons _ _ => rfl
theorem tru_of {S H : Hp} {v : V} {d : D} {b : Bool} (hs : Same S H) (r : Rep K mg S v d) (h : trD d = .ok b) : TruV K v H b := by
  cases d with
  | non => cases r; cases h; rfl
  | bl c => cases r; cases h; rfl
  | int c => cases r; cases h; rfl
  | str z =>
    cases r
    simp only [trD] at h
    split at h
    · rename_i hz
      cases h
      exact ⟨szOk_ok hz, rfl⟩
    · cases h
  | lst xs =>
    obtain ⟨a, vs, rfl, ha, rv⟩ := r.of_lst
    simp only [trD] at h
    cases h
    exact .inl ⟨vs, .inl (.inl (hs _ _ ha)), rv.empty⟩
  | frl xs =>
    obtain ⟨a, vs, rfl, ha, rv⟩ := r.of_frl
    simp only [trD] at h
    cases h
    exact .inl ⟨vs, same_l hs ha, rv.empty⟩
  | tup xs =>
    obtain ⟨a, vs, rfl, ha, rv⟩ := r.of_tup
    simp only [trD] at h
    cases h
    exact .inr (.inl ⟨vs, same_t hs ha, rv.empty⟩)
  | _ => cases h
end
section
variable {X : Cx} {E : WX} {m : Mds} {md : Md} {a b c e : Expr} {es : List Expr} {f fa fb fc : Env → Res D} {fs : Env → Res (List D)} {pos p p1 p2 : Pos} {x : Str}
theorem jt_tr (h : JE X E m .sh e f) (he : ∀ whole, isTrue e X.env whole = (do let v ← whole; standAt e.pos; holding [v] (truthy v)) := by intro _; rfl) : JT X E m e (fTr f) := by
  refine ⟨PTimp (pt_truth h.pe he) fun σ H Q q => ?_⟩
  obtain ⟨S, ρ, hm, hp⟩ := q
  refine ⟨S, ρ, hm, (PostW.bind hp).post fun d v S1 H1 s1 r k => ?_⟩
  cases ed : trD d with
  | ok bb =>
    rw [ed] at k
    exact ⟨bb, tru_of s1.sub r ed, k S1 H1 (Step.refl s1.sub)⟩
  | ex c fs =>
    exfalso
    cases d with
    | str z => simp only [trD] at ed; split at ed <;> cases ed
    | _ => simp only [trD] at ed; cases ed
  | er => rw [ed] at k; exact k.elim
def fChain (g g' : D → D → Res D) (fa fb fc : Env → Res D) : Env → Res D := fun ρ => (fa ρ).bind fun x => (fb ρ).bind fun y => (g x y).bind fun z => match z with
  | .bl true => (fc ρ).bind fun w => g' y w
  | .bl false => .ok (.bl false)
  | _ => .er
theorem chain_ok {K : PySem.W.Frag} {mg : Str → Option Value} {r r' : R2} {g g' : D → D → Res D} (hr : OpD K mg .sh r g) (hr' : OpD K mg .sh r' g') {σ : L2.St} {H : Hp} {Q : VK} (h : tE K mg E m .sh (fChain g g' fa fb fc) σ H Q) : tChain r r' (tE K mg E m .sh fa) (tE K mg E m .sh fb) (tE K mg E m .sh fc) σ H Q := by
  obtain ⟨S, ρ, hm, hp⟩ := h
  refine ⟨S, ρ, hm, (Post.bind hp).post fun dx v S1 H1 s1 r1 h1 => ⟨S1, ρ, hm.step s1, (Post.bind h1).post fun dy w S2 H2 s2 r2 h2 => ?_⟩⟩
  refine hr _ S2 H2 v w dx dy _ s2.sub (r1.mono s2.ss) r2 ((Post.bind h2).post fun dz z S3 H3 s3 r3 h3 => ?_)
  cases dz with
  | bl k =>
    cases r3
    refine ⟨k, rfl, ?_⟩
    cases k with
    | true => exact ⟨S3, ρ, (hm.step s1).step (s2.trans s3), (Post.bind h3).post fun dw u S4 H4 s4 r4 h4 => hr' _ S4 H4 w u dy dw Q s4.sub (r2.mono (s3.ss.trans s4.ss)) r4 h4⟩
    | false => exact Post.val h3 s3.sub (.bl false)
  | _ => exact h3.elim
theorem je_chain {op op' : CmpOp} {r r' : R2} {g g' : D → D → Res D} (ho : OpR X (compareOp op) r) (ho' : OpR X (compareOp op') r') (hr : OpD X.K X.mg .sh r g) (hr' : OpD X.K X.mg .sh r' g') (ha : JE X E m .sh a fa) (hb : JE X E m .sh b fb) (hc : JE X E m .sh c fc)
    (hm : lastMarks [op, op'] [b, c] = false := by with_unfolding_all rfl) : JE X E m .sh (.Compare a [op, op'] [b, c] pos) (fChain g g' fa fb fc) := ⟨PEimp (pe_chain ho ho' ha.pe hb.pe hc.pe hm) fun σ H Q h => chain_ok hr hr' h⟩
theorem jt_chain {op op' : CmpOp} {r r' : R2} {g g' : D → D → Res D} (ho : OpR X (compareOp op) r) (ho' : OpR X (compareOp op') r') (hr : OpD X.K X.mg .sh r g) (hr' : OpD X.K X.mg .sh r' g') (ha : JE X E m .sh a fa) (hb : JE X E m .sh b fb) (hc : JE X E m .sh c fc)
    (hm : lastMarks [op, op'] [b, c] = false := by with_unfolding_all rfl) : JT X E m (.Compare a [op, op'] [b, c] pos) (fB (fChain g g' fa fb fc)) := ⟨PTimp (pt_chain ho ho' ha.pe hb.pe hc.pe hm) fun σ H Q h => tT_of (fun σ H Q h => chain_ok hr hr' h) h⟩
def dList : D → Res D
  | .lst xs => .ok (.lst xs)
  | .frl xs => .ok (.lst xs)
  | .tup xs => .ok (.lst xs)
  | _ => .er
def dTuple : D → Res D
  | .lst xs => .ok (.tup xs)
  | .frl xs => .ok (.tup xs)
  | .tup xs => .ok (.tup xs)
  | _ => .er
theorem je_list (hm : X.mg "list" = none) (ha : JA X E m [e] fs) (hmd : md = .sh ∨ md = .ow := by first | exact .inl rfl | exact .inr rfl) (hg : Gl X "list" := by rfl) (he : starEach [e] X.env = (false, eval e X.env) :: starEach [] X.env := by rfl) : JE X E m md (.Call (.Name "list" p) [e] [] pos) (fOn (on1 dList) fs) :=
  je_callTy call_list_of (calld1 fun E S H x d Q hs rx hp => by
    cases d with
    | lst xs =>
      obtain ⟨a, vs, rfl, ha, rv⟩ := rx.of_lst
      exact ⟨a, vs, rfl, .inl (.inl (.inl (hs _ _ ha))), fun l hl => Post.list hmd hp hs rv hl⟩
    | frl xs =>
      obtain ⟨a, vs, rfl, ha, rv⟩ := rx.of_frl
      exact ⟨a, vs, rfl, .inl (same_l hs ha), fun l hl => Post.list hmd hp hs rv hl⟩
    | tup xs =>
      obtain ⟨a, vs, rfl, ha, rv⟩ := rx.of_tup
      exact ⟨a, vs, rfl, .inr (same_t hs ha), fun l hl => Post.list hmd hp hs rv hl⟩
    | _ => exact hp.elim) hm ha hg (by decide +kernel) (by decide) (by decide) he (by rfl)
theorem je_tuple (hm : X.mg "tuple" = none) (ha : JA X E m [e] fs) (hg : Gl X "tuple" := by rfl) (he : starEach [e] X.env = (false, eval e X.env) :: starEach [] X.env := by rfl) : JE X E m .sh (.Call (.Name "tuple" p) [e] [] pos) (fOn (on1 dTuple) fs) :=
  je_callTy call_tuple_of (calld1 fun E S H x d Q hs rx hp => by
    cases d with
    | lst xs =>
      obtain ⟨a, vs, rfl, ha, rv⟩ := rx.of_lst
      exact ⟨a, vs, rfl, .inl ⟨.inl (.inl (hs _ _ ha)), fun l hl => Post.tup hp hs rv hl⟩⟩
    | frl xs =>
      obtain ⟨a, vs, rfl, ha, rv⟩ := rx.of_frl
      exact ⟨a, vs, rfl, .inl ⟨same_l hs ha, fun l hl => Post.tup hp hs rv hl⟩⟩
    | tup xs =>
      have hp : Post X.K X.mg E S H .sh (.ok (.tup xs)) Q := hp
      have hv := hp.val hs rx
      obtain ⟨a, vs, rfl, ha, rv⟩ := rx.of_tup
      exact ⟨a, vs, rfl, .inr ⟨same_t hs ha, hv⟩⟩
    | _ => exact hp.elim) hm ha hg (by decide +kernel) (by decide) (by decide) he (by rfl)
def rgnOk (i j : Int) : Bool := stuck (rngOk i j = true ∧ (j - i).toNat ≤ 16777216)
theorem rgnOk_ok {i j : Int} (h : rgnOk i j = true) : RgOk i j := by
  have h := stuck_iff.mp h
  obtain ⟨h1, h2, h3, h4⟩ := rngOk_ok h.1
  exact ⟨h1, h2, h3, h4, h.2⟩
def fListR1 (f : Env → Res D) : Env → Res D := fun ρ => (f ρ).bind fun d => match d with
  | .int j => if rgnOk 0 j = true then .ok (.lst (rng 0 (j - 0).toNat)) else .er
  | _ => .er
def fTupleR1 (f : Env → Res D) : Env → Res D := fun ρ => (f ρ).bind fun d => match d with
  | .int j => if rgnOk 0 j = true then .ok (.tup (rng 0 (j - 0).toNat)) else .er
  | _ => .er
theorem rep_rng {K : PySem.W.Frag} {mg : Str → Option Value} {S : Hp} (a b : Int) : RepL K mg S (rgV a b) (rng a (b - a).toNat) := by
  unfold rgV rng
  refine ⟨by rw [List.length_map, List.length_map], fun i v d h1 h2 => ?_⟩
  rw [List.getElem?_map] at h1 h2
  cases e : (List.range (b - a).toNat)[i]? with
  | none => rw [e] at h1; cases h1
  | some j =>
    rw [e] at h1 h2
    cases h1; cases h2
    exact .int _
theorem je_listR1 (hm : X.mg "list" = none) (hm2 : X.mg "range" = none) (ha : JE X E m .sh a fa) (hmd : md = .sh ∨ md = .ow := by first | exact .inl rfl | exact .inr rfl) (hc : X.calm = true := by rfl) (hg : Gl X "list" := by rfl) (hg2 : Gl X "range" := by rfl) (na : starEach [a] X.env = (false, eval a X.env) :: starEach [] X.env := by rfl)
    (nb : starEach [.Call (.Name "range" p1) [a] [] p2] X.env = (false, eval (.Call (.Name "range" p1) [a] [] p2) X.env) :: starEach [] X.env := by rfl) : JE X E m md (.Call (.Name "list" p) [.Call (.Name "range" p1) [a] [] p2] [] pos) (fListR1 fa) := by
  refine ⟨PEimp (pe_listRg hc hg hm (prg_1 hg2 hm2 ha.pe na) nb) fun σ H Q h => ?_⟩
  obtain ⟨S, ρ, hm, hp⟩ := h
  refine ⟨S, ρ, hm, (Post.bind hp).post fun d v S1 H1 s1 r k => ?_⟩
  cases d with
  | int j =>
    obtain ⟨hk, k⟩ := Post.of_if k
    cases r
    exact ⟨j, rfl, rgnOk_ok hk, fun q hq => Post.list hmd k s1.sub (rep_rng 0 j) hq⟩
  | _ => exact k.elim
theorem je_tupleR1 (hm : X.mg "tuple" = none) (hm2 : X.mg "range" = none) (ha : JE X E m .sh a fa) (hc : X.calm = true := by rfl) (hg : Gl X "tuple" := by rfl) (hg2 : Gl X "range" := by rfl) (na : starEach [a] X.env = (false, eval a X.env) :: starEach [] X.env := by rfl)
    (nb : starEach [.Call (.Name "range" p1) [a] [] p2] X.env = (false, eval (.Call (.Name "range" p1) [a] [] p2) X.env) :: starEach [] X.env := by rfl) : JE X E m .sh (.Call (.Name "tuple" p) [.Call (.Name "range" p1) [a] [] p2] [] pos) (fTupleR1 fa) := by
  refine ⟨PEimp (pe_tupRg hc hg hm (prg_1 hg2 hm2 ha.pe na) nb) fun σ H Q h => ?_⟩
  obtain ⟨S, ρ, hm, hp⟩ := h
  refine ⟨S, ρ, hm, (Post.bind hp).post fun d v S1 H1 s1 r k => ?_⟩
  cases d with
  | int j =>
    obtain ⟨hk, k⟩ := Post.of_if k
    cases r
    exact ⟨j, rfl, rgnOk_ok hk, fun q hq => Post.tup k s1.sub (rep_rng 0 j) hq⟩
  | _ => exact k.elim
def intsD : List D → Option (List Int)
  | [] => some []
  | .int i :: r => match intsD r with
    | some ns => some (i :: ns)
    | none => none
  | _ => none
def boolsD : List D → Option (List Bool)
  | [] => some []
  | .bl i :: r => match boolsD r with
    | some ns => some (i :: ns)
    | none => none
  | _ => none
theorem boolsD_ok : ∀ {ds : List D} {ns : List Bool}, boolsD ds = some ns → ds = ns.map D.bl
  | [], ns, h => by cases h; rfl
  | .bl i :: r, ns, h => by
    simp only [boolsD] at h
    split at h
    · rename_i ms e
      cases h
      rw [boolsD_ok e]
      rfl
    · cases h
  | .non :: r, ns, h => by cases h
  | .int _ :: r, ns, h => by cases h
  | .str _ :: r, ns, h => by cases h
  | .lst _ :: r, ns, h => by cases h
  | .tup _ :: r, ns, h => by cases h
  | .frl _ :: r, ns, h => by cases h
  | .dic _ _ :: r, ns, h => by cases h
  | .dit _ _ :: r, ns, h => by cases h
  | .obj _ _ _ :: r, ns, h => by cases h
@[simp] theorem intsD_map : ∀ ns : List Int, intsD (ns.map D.int) = some ns
  | [] => rfl
  | n :: ns => by simp only [List.map_cons, intsD, intsD_map ns]
@[simp] theorem boolsD_map : ∀ ns : List Bool, boolsD (ns.map D.bl) = some ns
  | [] => rfl
  | n :: ns => by simp only [List.map_cons, boolsD, boolsD_map ns]
def dAll : D → Res D
  | .lst xs => match boolsD xs with
    | some ns => .ok (.bl (ns.all id))
    | none => .er
  | _ => .er
theorem je_all (hm : X.mg "all" = none) (ha : JA X E m [e] fs) (hc : X.calm = true := by rfl) (hg : Gl X "all" := by rfl) (he : starEach [e] X.env = (false, eval e X.env) :: starEach [] X.env := by rfl) : JE X E m .sh (.Call (.Name "all" p) [e] [] pos) (fOn (on1 dAll) fs) :=
  je_callB (cr_all hc) (calld1 fun E S H x d Q hs rx hp => by
    cases d with
    | lst xs =>
      obtain ⟨a, vs, rfl, ha, rv⟩ := rx.of_lst
      simp only [dAll] at hp
      split at hp
      · rename_i ns en
        rw [boolsD_ok en] at rv
        exact ⟨a, ns, rfl, by rw [← rv.bls]; exact .inl (.inl (hs _ _ ha)), hp.val hs (.bl _)⟩
      · exact hp.elim
    | _ => exact (show False from hp).elim) hm ha hg (by decide +kernel) (by decide) (by decide) he (by rfl)
def repOk (n : Nat) (k : Int) : Bool := stuck ((-(9223372036854775808) ≤ k ∧ k < 9223372036854775808) ∧ szOk (n * k.toNat) = true)
def dRep : D → D → Res D
  | .lst xs, .int k => if repOk xs.length k = true then .ok (.lst (List.replicate k.toNat xs).flatten) else .er
  | _, _ => .er
theorem RepL.rep {K : PySem.W.Frag} {mg : Str → Option Value} {S : Hp} {vs : List V} {ds : List D} (r : RepL K mg S vs ds) : ∀ k : Nat, RepL K mg S (List.replicate k vs).flatten (List.replicate k ds).flatten
  | 0 => .nil
  | k + 1 => by
    rw [List.replicate_succ, List.replicate_succ, List.flatten_cons, List.flatten_cons]
    exact r.append (r.rep k)
theorem je_rep (ha : JE X E m .sh a fa) (hb : JE X E m .sh b fb) (hmd : md = .sh ∨ md = .ow := by first | exact .inl rfl | exact .inr rfl) : JE X E m md (.BinOp a .Mult b pos) (f2 dRep fa fb) := je_op op_rep (fun E S H x y dx dy Q hs rx ry h => by
  cases dx with
  | lst xs =>
    cases dy with
    | int k =>
      obtain ⟨hz, h⟩ := Post.of_if h
      have hz := stuck_iff.mp hz
      have h12 := hz.1
      obtain ⟨l, vs, rfl, hl, rv⟩ := rx.of_lst
      cases ry
      have h1 := h12.1
      have h2 := h12.2
      exact ⟨l, k, vs, rfl, rfl, hs _ _ hl, by omega, by omega, by rw [rv.len]; exact szOk_ok hz.2, fun p hp => Post.list hmd h hs (rv.rep _) hp⟩
    | _ => exact h.elim
  | _ => exact h.elim) ha hb
def cutD (xs : List D) (lo hi : Option Int) : List D := (xs.drop (HT.sIx xs.length 0 lo)).take (HT.sIx xs.length xs.length hi - HT.sIx xs.length 0 lo)
def fNoI : Env → Res (Option Int) := fun _ => .ok none
def fSoI (f : Env → Res D) : Env → Res (Option Int) := fun ρ => (f ρ).bind fun d => match d with
  | .int i => .ok (some i)
  | _ => .er
def dCut (d : D) (lo hi : Option Int) : Res D := match d with
  | .lst xs => .ok (.lst (cutD xs lo hi))
  | .frl xs => .ok (.lst (cutD xs lo hi))
  | .tup xs => .ok (.tup (cutD xs lo hi))
  | _ => .er
def dCutL (d : D) (lo hi : Option Int) : Res D := match d with
  | .lst xs => .ok (.lst (cutD xs lo hi))
  | .frl xs => .ok (.lst (cutD xs lo hi))
  | _ => .er
def fCut (g : D → Option Int → Option Int → Res D) (f : Env → Res D) (fl fh : Env → Res (Option Int)) : Env → Res D := fun ρ => (f ρ).bind fun x => (fl ρ).bind fun l => (fh ρ).bind fun h => g x l h
def tO (K : PySem.W.Frag) (mg : Str → Option Value) (E : WX) (m : Mds) (f : Env → Res (Option Int)) : TO := fun σ H Q => ∃ S ρ, EnvM K mg m S H σ ρ ∧ PostW K mg (WE E σ) S H (f ρ) fun o _ H' => Q o H'
structure JO (X : Cx) (E : WX) (m : Mds) (e : Option Expr) (f : Env → Res (Option Int)) : Prop where
  po : PO X e (tO X.K X.mg E m f)
theorem POimp {t t' : TO} {o : Option Expr} (h : PO X o t) (g : ∀ σ H Q, t' σ H Q → t σ H Q) : PO X o t' := ⟨fun pins s σ H Q I q => h.run pins s σ H Q I (g σ H Q q)⟩
theorem jo_none : JO X E m none fNoI := ⟨POimp po_none fun σ H Q h => by
  obtain ⟨S, ρ, hm, hp⟩ := h
  exact hp S H (Step.refl hm.1)⟩
theorem jo_some (h : JE X E m .sh e f) : JO X E m (some e) (fSoI f) := ⟨POimp (po_some h.pe) fun σ H Q h => by
  obtain ⟨S, ρ, hm, hp⟩ := h
  refine ⟨S, ρ, hm, (PostW.bind hp).post fun d v S1 H1 s1 r k => ?_⟩
  cases d with
  | int i => cases r; exact ⟨i, rfl, k S1 H1 (Step.refl s1.sub)⟩
  | _ => exact k.elim⟩
theorem repl_cut {K : PySem.W.Frag} {mg : Str → Option Value} {S : Hp} {vs : List V} {ds : List D} (r : RepL K mg S vs ds) (lo hi : Option Int) : RepL K mg S (cutV vs lo hi) (cutD ds lo hi) := by
  unfold cutV cutD
  rw [r.len]
  exact (r.drop _).take _
def rSlAll (K : PySem.W.Frag) : V → Option Int → Option Int → Hp → VK → Prop := fun x lo hi H Q => rSlL K x lo hi H Q ∨ rSlA K x lo hi H Q
theorem sl_all : SlR X (rSlAll X.K) := SlR.or sl_list sl_tupA
theorem cut_id {α : Type} {xs : List α} {lo hi : Option Int} (h : HT.sIx xs.length 0 lo = 0 ∧ HT.sIx xs.length xs.length hi = xs.length) : (xs.drop (HT.sIx xs.length 0 lo)).take (HT.sIx xs.length xs.length hi - HT.sIx xs.length 0 lo) = xs := by
  rw [h.1, h.2]
  simp
theorem cut_ok {K : PySem.W.Frag} {mg : Str → Option Value} {E : XK} {S H : Hp} {x : V} {d : D} {lo hi : Option Int} {Q : VK} (hs : Same S H) (rx : Rep K mg S x d) (h : Post K mg E S H .sh (dCut d lo hi) Q) : rSlAll K x lo hi H Q := by
  cases d with
  | lst xs =>
    obtain ⟨a, vs, rfl, ha, rv⟩ := rx.of_lst
    exact .inl ⟨a, vs, rfl, .inl (.inl (hs _ _ ha)), fun p hp => Post.lst h hs (repl_cut rv lo hi) hp⟩
  | frl xs =>
    obtain ⟨a, vs, rfl, ha, rv⟩ := rx.of_frl
    exact .inl ⟨a, vs, rfl, same_l hs ha, fun p hp => Post.lst h hs (repl_cut rv lo hi) hp⟩
  | tup xs =>
    have rx' := rx
    obtain ⟨a, vs, rfl, ha, rv⟩ := rx.of_tup
    refine .inr ⟨a, vs, rfl, same_t hs ha, fun e => ?_, fun _ p hp => Post.tup h hs (repl_cut rv lo hi) hp⟩
    rw [rv.len] at e
    have h : Post K mg E S H .sh (.ok (.tup (cutD xs lo hi))) Q := h
    unfold cutD at h
    rw [cut_id e] at h
    exact h.val hs rx'
  | _ => exact h.elim
theorem je_cut {l h : Option Expr} {fl fh : Env → Res (Option Int)} (ha : JE X E m .sh a fa) (hl : JO X E m l fl) (hh : JO X E m h fh) : JE X E m .sh (.Subscript a (.Slice l h none p2) pos) (fCut dCut fa fl fh) := by
  refine ⟨PEimp (pe_slice sl_all ha.pe hl.po hh.po) fun σ H Q q => ?_⟩
  obtain ⟨S, ρ, hm, hp⟩ := q
  refine ⟨S, ρ, hm, (Post.bind hp).post fun d v S1 H1 s1 r k => ⟨S1, ρ, hm.step s1, (Post.bind k).imp fun lo S2 H2 s2 k2 => ⟨S2, ρ, (hm.step s1).step s2, (Post.bind k2).imp fun hi S3 H3 s3 k3 => ?_⟩⟩⟩
  exact cut_ok s3.sub (r.mono (s2.ss.trans s3.ss)) k3
end
end Da
namespace Da
open PySem PySem.Spec L2
section
variable {P : Program} {w : World} {K : PySem.W.Frag} {mg : Str → Option Value} {base h : Heap}
theorem defAt_mk {x qual : Str} {st : Stmt} {ps : List Str} {f : Addr} {oc : Value} {od an : Option Addr} {osl : Array (Option Value)} {kV doc pm cdv ct : Value} (X : K.In h) (G : h.Ns mainGlobals mg) (a : PySem.W.nsIn K mainGlobals x = some (some (.ref f)))
    (l : K.lookup f = some ⟨oc, od, .func (PySem.W.fnOf x qual (defArgs st) (defBody st) (defScope st) .none kV doc pm an cdv ct), osl⟩) (c : PySem.W.codeIn K cdv qual = true) (k : PySem.W.keepIn K (.ref f) = true)
    (hb : ∀ (kV doc pm : Value) (an : Option Addr) (cdv ct : Value) (us : List Value), us.length = ps.length → bindArgs (PySem.W.fnOf x qual (defArgs st) (defBody st) (defScope st) .none kV doc pm an cdv ct) ⟨us, []⟩ = pure (ps.zip us)) : DefAt K mg x qual st ps := by
  have Fn := fun_mk (st := st) l c k
  exact ⟨f, _, Fn, Fn.binds hb, PySem.W.mg_of X G a⟩
/-- what the law is asked -/
def spLaw (K : PySem.W.Frag) : Sp := fun vs H Q _ => ∃ (a : Addr) (ns : List Int), vs = [.ref a] ∧ SqL K H a (ns.map V.int) ∧ ns.length ≤ 63 ∧ (∀ z ∈ ns, Builtin.Int.intBits z ≤ 1048576) ∧ ∀ H', Q (.bl true) H'
theorem law_imp {k : Nat} {f : Addr} {fd : FuncData} {g : List D → Res D} (G : FnOk P w K mg base (L2.CX P w) k f fd ["script"] (spD K mg 1 .sh g)) (hg : ∀ ns : List Int, ns.length ≤ 63 → (∀ z ∈ ns, Builtin.Int.intBits z ≤ 1048576) → g [.frl (ns.map D.int)] = .ok (.bl true)) :
    FnOk P w K mg base (L2.CX P w) k f fd ["script"] (spLaw K) := G.imp fun vs H Q E hsp => by
  obtain ⟨a, ns, rfl, hS, hl, hb, q⟩ := hsp
  refine ⟨H, [.frl (ns.map D.int)], Same.refl H, .cons (.frl hS (by rw [List.length_map, List.length_map]) (RepL.of_ints ns).at_) .nil, ?_⟩
  show Post K mg E H H .sh (chk 1 g [.frl (ns.map D.int)]) Q
  unfold chk
  rw [if_pos (by rfl), hg ns hl hb]
  intro v S' H' fp s' o _ _
  cases o.1
  exact q H'
theorem cx_none {H : Hp} {s s' : Shared} {e : Value} (h : L2.CX P w [] H s (fun _ _ _ => False) e s') : False := by
  obtain ⟨_, _, _, _, _, _, _, _, _, _, _, _, z⟩ := h
  exact z
theorem walk_end {l : PySem.W.OpenLaw} {q : Program} {loose : List Str} {XP : (Str → Option Value) → Heap → Prop} {YP : World → Heap → Prop} {d : DefRec} {K : Params → PySem.W.Frag} {k : Nat} (hn : l.most = some 63) (hdf : d.params.defaults = []) (hr : Room k callerA)
    (hY : ∀ (w : World) (h : Heap), YP w h → (K w.params).In h)
    (F : ∀ (w : World) (mg : Str → Option Value) (fa : Addr) (h : Heap), (K w.params).In h → h.Ns mainGlobals mg → mg d.name = some (.ref fa) →
      ∃ fd : FuncData, (∀ (s : Shared) (u : Value), BindsTo s fd ⟨[u], []⟩ [("script", u)]) ∧ ∀ base : Heap, (K w.params).In base → base.Ns mainGlobals mg → FnOk l.prog w (K w.params) mg base (L2.CX l.prog w) k fa fd ["script"] (spLaw (K w.params))) :
    PySem.W.WalkO q loose XP YP l.row.toRowW d [] (fun f vs => PySem.call f vs) :=
  L2.walk_ofB (n := 63) (k := k) (x := "script") (CX := fun w => L2.CX l.prog w) (sp := fun w => spLaw (K w.params)) hn (by decide) hdf hr hY F (fun w H a ns hl hb _ hS => ⟨a, ns, rfl, hS, hl, hb, fun _ => rfl⟩) fun w H s e s' z => cx_none z
end
end Da
namespace Da
open PySem PySem.Spec L2
section
variable {ρ : Env} {f fa fb fc : Env → Res D} {g : D → Res D} {g2 : D → D → Res D} {fs : Env → Res (List D)} {c ga gb : Env → Res Bool} {F G : FS} {d e : D} {i : Nat}
@[simp] theorem fC_ap : fC d ρ = .ok d := rfl
@[simp] theorem fV_nil : fV i [] = .er := by simp [fV]
@[simp] theorem fV_zero {x : D} {r : Env} : fV 0 (some x :: r) = .ok x := rfl
@[simp] theorem fV_succ {x : Option D} {r : Env} : fV (i + 1) (x :: r) = fV i r := by
  unfold fV
  rw [List.getElem?_cons_succ]
@[simp] theorem f1_ap : f1 g fa ρ = (fa ρ).bind g := rfl
@[simp] theorem f2_ap : f2 g2 fa fb ρ = (fa ρ).bind fun x => (fb ρ).bind fun y => g2 x y := rfl
@[simp] theorem fA0_ap : fA0 ρ = .ok [] := rfl
@[simp] theorem fA_ap : fA fa fs ρ = (fa ρ).bind fun x => (fs ρ).bind fun xs => .ok (x :: xs) := rfl
@[simp] theorem fOn_ap {g : List D → Res D} : fOn g fs ρ = (fs ρ).bind g := rfl
@[simp] theorem fB_ap : fB f ρ = (f ρ).bind asB := rfl
@[simp] theorem fTr_ap : fTr f ρ = (f ρ).bind trD := rfl
@[simp] theorem fBv_ap : fBv c ρ = (c ρ).bind fun b => .ok (.bl b) := rfl
@[simp] theorem asB_bl {b : Bool} : asB (.bl b) = .ok b := rfl
@[simp] theorem fAnd_ap : fAnd ga gb ρ = (ga ρ).bind fun c => if c = true then gb ρ else .ok false := rfl
@[simp] theorem fOr_ap : fOr ga gb ρ = (ga ρ).bind fun c => if c = true then .ok true else gb ρ := rfl
@[simp] theorem fNot_ap : fNot ga ρ = (ga ρ).bind fun c => .ok (!c) := rfl
@[simp] theorem fIf_ap : fIf c fa fb ρ = (c ρ).bind fun b => if b = true then fa ρ else fb ρ := rfl
@[simp] theorem fL_ap : fL f ρ = (f ρ).bind asL := rfl
@[simp] theorem fR1_ap : fR1 fs ρ = (fs ρ).bind gRng1 := rfl
@[simp] theorem fR2_ap : fR2 fs ρ = (fs ρ).bind gRng2 := rfl
@[simp] theorem asL_lst {xs : List D} : asL (.lst xs) = .ok xs := rfl
@[simp] theorem asL_frl {xs : List D} : asL (.frl xs) = .ok xs := rfl
@[simp] theorem asL_tup {xs : List D} : asL (.tup xs) = .ok xs := rfl
@[simp] theorem on1_ap {g : D → Res D} : on1 g [d] = g d := rfl
@[simp] theorem on2_ap {g : D → D → Res D} : on2 g [d, e] = g d e := rfl
@[simp] theorem gN_ap : gN i d ρ = .ok (ρ.set i (some d)) := rfl
@[simp] theorem fNext_ap : fNext ρ = .ok (.nx ρ) := rfl
@[simp] theorem fBrk_ap : fBrk ρ = .ok (.bk ρ) := rfl
@[simp] theorem fCnt_ap : fCnt ρ = .ok (.ct ρ) := rfl
@[simp] theorem fSet_ap : fSet i f ρ = lift (f ρ) ρ fun d => .ok (.nx (ρ.set i (some d))) := rfl
@[simp] theorem fRet_ap : fRet f ρ = lift (f ρ) ρ fun d => .ok (.rt d) := rfl
@[simp] theorem fRetN_ap : fRetN ρ = .ok (.rt .non) := rfl
@[simp] theorem fIfS_ap : fIfS c F G ρ = lift (c ρ) ρ fun b => if b = true then F ρ else G ρ := rfl
@[simp] theorem fDrop_ap : fDrop f ρ = lift (f ρ) ρ fun _ => .ok (.nx ρ) := rfl
@[simp] theorem fAug_ap : fAug i g2 f ρ = lift ((fV i ρ).bind fun x => (f ρ).bind fun y => g2 x y) ρ fun d => .ok (.nx (ρ.set i (some d))) := rfl
theorem fSeq_nx {ρ' : Env} (h : F ρ = .ok (.nx ρ')) : fSeq F G ρ = G ρ' := by unfold fSeq; rw [h]
/-- a block behind an end -/
def andThen (o : Res Fl) (G : FS) : Res Fl := match o with
  | .ok (.nx ρ') => G ρ'
  | o => o
@[simp] theorem fSeq_ap : fSeq F G ρ = andThen (F ρ) G := rfl
@[simp] theorem andThen_nx {ρ' : Env} : andThen (.ok (.nx ρ')) G = G ρ' := rfl
@[simp] theorem andThen_rt {d : D} : andThen (.ok (.rt d)) G = .ok (.rt d) := rfl
@[simp] theorem andThen_bk {ρ' : Env} : andThen (.ok (.bk ρ')) G = .ok (.bk ρ') := rfl
@[simp] theorem andThen_ct {ρ' : Env} : andThen (.ok (.ct ρ')) G = .ok (.ct ρ') := rfl
@[simp] theorem andThen_xc {c : Str} {fs : List (Str × D)} {ρ' : Env} : andThen (.ok (.xc c fs ρ')) G = .ok (.xc c fs ρ') := rfl
@[simp] theorem andThen_er : andThen .er G = .er := rfl
@[simp] theorem andThen_ite {p : Prop} [Decidable p] {a b : Res Fl} : andThen (if p then a else b) G = if p then andThen a G else andThen b G := by split <;> rfl
@[simp] theorem fApp_zero {xs : List D} {r : Env} : fApp 0 f (some (.lst xs) :: r) = lift (f (some (.lst xs) :: r)) (some (.lst xs) :: r) fun d => if szOk (xs.length + 1) = true then .ok (.nx (some (.lst (xs ++ [d])) :: r)) else .er := rfl
@[simp] theorem dAdd_int {i j : Int} : dAdd (.int i) (.int j) = .ok (.int (i + j)) := rfl
@[simp] theorem dSub_int {i j : Int} : dSub (.int i) (.int j) = .ok (.int (i - j)) := rfl
theorem dMul_int {i j : Int} (h : mulOk i j = true) : dMul (.int i) (.int j) = .ok (.int (i * j)) := if_pos h
@[simp] theorem dLt_int {i j : Int} : dLt (.int i) (.int j) = .ok (.bl (decide (i < j))) := rfl
@[simp] theorem dLe_int {i j : Int} : dLe (.int i) (.int j) = .ok (.bl (decide (i ≤ j))) := rfl
@[simp] theorem dGt_int {i j : Int} : dGt (.int i) (.int j) = .ok (.bl (decide (j < i))) := rfl
@[simp] theorem dGe_int {i j : Int} : dGe (.int i) (.int j) = .ok (.bl (decide (j ≤ i))) := rfl
@[simp] theorem dI_yes {g : Int → Int → Int} {i j : Int} : dI yes2 g (.int i) (.int j) = .ok (.int (g i j)) := rfl
@[simp] theorem dInt_int {i : Int} : dInt (.int i) = .ok (.int i) := rfl
@[simp] theorem dNeg_int {i : Int} : dNeg (.int i) = .ok (.int (-i)) := rfl
@[simp] theorem dAbs_int {i : Int} : dAbs (.int i) = .ok (.int (if i < 0 then -i else i)) := rfl
@[simp] theorem dMax2_int {i j : Int} : dMax2 (.int i) (.int j) = .ok (.int (if j > i then j else i)) := rfl
@[simp] theorem dMin2_int {i j : Int} : dMin2 (.int i) (.int j) = .ok (.int (if j < i then j else i)) := rfl
@[simp] theorem dLen_lst {xs : List D} : dLen (.lst xs) = .ok (.int xs.length) := rfl
@[simp] theorem dLen_frl {xs : List D} : dLen (.frl xs) = .ok (.int xs.length) := rfl
@[simp] theorem dLen_tup {xs : List D} : dLen (.tup xs) = .ok (.int xs.length) := rfl
@[simp] theorem eqD_int {i j : Int} : eqD (.int i) (.int j) = .ok (i == j) := by
  unfold eqD D.py
  simp only [SeqAt.shaped, PyData.canLay0, PyData.depth, PyData.eqv]
  rfl
@[simp] theorem dEq_int {i j : Int} : dEq (.int i) (.int j) = .ok (.bl (i == j)) := by unfold dEq; rw [eqD_int]; rfl
@[simp] theorem dNe_int {i j : Int} : dNe (.int i) (.int j) = .ok (.bl (!(i == j))) := by unfold dNe; rw [eqD_int]; rfl
theorem log2_lt {n k : Nat} (h : n < 2 ^ k) (hk : 0 < k) : n.log2 < k := PySem.Flt.log2_lt_of hk h
theorem mulOk_of {i j : Int} {a b : Nat} (hi : i.natAbs < 2 ^ a) (hj : j.natAbs < 2 ^ b) (ha : 0 < a := by decide) (hb : 0 < b := by decide) (hab : a + b ≤ 1000000 := by decide) : mulOk i j = true := mulOk_yes (wide_mul hi hj ha hb hab)
theorem mul64 {i j : Int} (hi : i.natAbs < 18446744073709551616) (hj : j.natAbs < 18446744073709551616) : mulOk i j = true := mulOk_of (a := 64) (b := 64) hi hj
/-- the greatest divisor's bound, never reckoned out -/
def Lim : Nat := 2 ^ 9000
theorem lt_lim {n : Nat} (h : n < 18446744073709551616) : n < Lim := Nat.lt_of_lt_of_le (show n < 2 ^ 64 from h) (Nat.pow_le_pow_right (by decide) (by decide))
theorem dDiv_pos {i j : Int} (h : 0 < j) (h9 : j.natAbs < Lim) : dDiv (.int i) (.int j) = .ok (.int (i / j)) := by
  show (if divOk i j = true then Res.ok (D.int (i.fdiv j)) else .er) = _
  rw [if_pos (by
    exact stuck_iff.mpr ⟨by omega, log2_lt h9 (by decide)⟩), Int.fdiv_eq_ediv_of_nonneg i (by omega)]
theorem dDiv_64 {i j : Int} (h : 0 < j) (h9 : j < 18446744073709551616) : dDiv (.int i) (.int j) = .ok (.int (i / j)) := dDiv_pos h (lt_lim (by omega))
theorem dMod_pos {i j : Int} (h : 0 < j) : dMod (.int i) (.int j) = .ok (.int (i % j)) := by
  show (if modOk i j = true then Res.ok (D.int (i.fmod j)) else .er) = _
  rw [if_pos (show modOk i j = true from decide_eq_true (by omega)), Int.fmod_eq_emod_of_nonneg i (by omega)]
theorem kb_NoneType_int : kitB "NoneType" "int" = some false := by decide +kernel
theorem kb_bool_int : kitB "bool" "int" = some true := by decide +kernel
theorem kb_int_int : kitB "int" "int" = some true := by decide +kernel
theorem kb_str_int : kitB "str" "int" = some false := by decide +kernel
theorem kb_list_int : kitB "list" "int" = some false := by decide +kernel
theorem kb_tuple_int : kitB "tuple" "int" = some false := by decide +kernel
theorem kb_dict_int : kitB "dict" "int" = some false := by decide +kernel
@[simp] theorem isTy_int_non : isTy "int" .non = .ok false := by unfold isTy tyNm; simp only [kb_NoneType_int]
@[simp] theorem isTy_int_bl {b : Bool} : isTy "int" (.bl b) = .ok true := by unfold isTy tyNm; simp only [kb_bool_int]
@[simp] theorem isTy_int_int {b : Int} : isTy "int" (.int b) = .ok true := by unfold isTy tyNm; simp only [kb_int_int]
@[simp] theorem isTy_int_str {b : Str} : isTy "int" (.str b) = .ok false := by unfold isTy tyNm; simp only [kb_str_int]
@[simp] theorem isTy_int_lst {b : List D} : isTy "int" (.lst b) = .ok false := by unfold isTy tyNm; simp only [kb_list_int]
@[simp] theorem isTy_int_frl {b : List D} : isTy "int" (.frl b) = .ok false := by unfold isTy tyNm; simp only [kb_list_int]
@[simp] theorem isTy_int_tup {b : List D} : isTy "int" (.tup b) = .ok false := by unfold isTy tyNm; simp only [kb_tuple_int]
@[simp] theorem isTy_int_dic {k : List Key} {b : List D} : isTy "int" (.dic k b) = .ok false := by unfold isTy tyNm; simp only [kb_dict_int]
@[simp] theorem isTy_int_dit {k : List (List Key)} {b : List D} : isTy "int" (.dit k b) = .ok false := by unfold isTy tyNm; simp only [kb_dict_int]
theorem kb_NoneType_bool : kitB "NoneType" "bool" = some false := by decide +kernel
theorem kb_bool_bool : kitB "bool" "bool" = some true := by decide +kernel
theorem kb_int_bool : kitB "int" "bool" = some false := by decide +kernel
theorem kb_str_bool : kitB "str" "bool" = some false := by decide +kernel
theorem kb_list_bool : kitB "list" "bool" = some false := by decide +kernel
theorem kb_tuple_bool : kitB "tuple" "bool" = some false := by decide +kernel
theorem kb_dict_bool : kitB "dict" "bool" = some false := by decide +kernel
@[simp] theorem isTy_bool_non : isTy "bool" .non = .ok false := by unfold isTy tyNm; simp only [kb_NoneType_bool]
@[simp] theorem isTy_bool_bl {b : Bool} : isTy "bool" (.bl b) = .ok true := by unfold isTy tyNm; simp only [kb_bool_bool]
@[simp] theorem isTy_bool_int {b : Int} : isTy "bool" (.int b) = .ok false := by unfold isTy tyNm; simp only [kb_int_bool]
@[simp] theorem isTy_bool_str {b : Str} : isTy "bool" (.str b) = .ok false := by unfold isTy tyNm; simp only [kb_str_bool]
@[simp] theorem isTy_bool_lst {b : List D} : isTy "bool" (.lst b) = .ok false := by unfold isTy tyNm; simp only [kb_list_bool]
@[simp] theorem isTy_bool_frl {b : List D} : isTy "bool" (.frl b) = .ok false := by unfold isTy tyNm; simp only [kb_list_bool]
@[simp] theorem isTy_bool_tup {b : List D} : isTy "bool" (.tup b) = .ok false := by unfold isTy tyNm; simp only [kb_tuple_bool]
@[simp] theorem isTy_bool_dic {k : List Key} {b : List D} : isTy "bool" (.dic k b) = .ok false := by unfold isTy tyNm; simp only [kb_dict_bool]
@[simp] theorem isTy_bool_dit {k : List (List Key)} {b : List D} : isTy "bool" (.dit k b) = .ok false := by unfold isTy tyNm; simp only [kb_dict_bool]
theorem kb_NoneType_list : kitB "NoneType" "list" = some false := by decide +kernel
theorem kb_bool_list : kitB "bool" "list" = some false := by decide +kernel
theorem kb_int_list : kitB "int" "list" = some false := by decide +kernel
theorem kb_str_list : kitB "str" "list" = some false := by decide +kernel
theorem kb_list_list : kitB "list" "list" = some true := by decide +kernel
theorem kb_tuple_list : kitB "tuple" "list" = some false := by decide +kernel
theorem kb_dict_list : kitB "dict" "list" = some false := by decide +kernel
@[simp] theorem isTy_list_non : isTy "list" .non = .ok false := by unfold isTy tyNm; simp only [kb_NoneType_list]
@[simp] theorem isTy_list_bl {b : Bool} : isTy "list" (.bl b) = .ok false := by unfold isTy tyNm; simp only [kb_bool_list]
@[simp] theorem isTy_list_int {b : Int} : isTy "list" (.int b) = .ok false := by unfold isTy tyNm; simp only [kb_int_list]
@[simp] theorem isTy_list_str {b : Str} : isTy "list" (.str b) = .ok false := by unfold isTy tyNm; simp only [kb_str_list]
@[simp] theorem isTy_list_lst {b : List D} : isTy "list" (.lst b) = .ok true := by unfold isTy tyNm; simp only [kb_list_list]
@[simp] theorem isTy_list_frl {b : List D} : isTy "list" (.frl b) = .ok true := by unfold isTy tyNm; simp only [kb_list_list]
@[simp] theorem isTy_list_tup {b : List D} : isTy "list" (.tup b) = .ok false := by unfold isTy tyNm; simp only [kb_tuple_list]
@[simp] theorem isTy_list_dic {k : List Key} {b : List D} : isTy "list" (.dic k b) = .ok false := by unfold isTy tyNm; simp only [kb_dict_list]
@[simp] theorem isTy_list_dit {k : List (List Key)} {b : List D} : isTy "list" (.dit k b) = .ok false := by unfold isTy tyNm; simp only [kb_dict_list]
theorem kb_NoneType_tuple : kitB "NoneType" "tuple" = some false := by decide +kernel
theorem kb_bool_tuple : kitB "bool" "tuple" = some false := by decide +kernel
theorem kb_int_tuple : kitB "int" "tuple" = some false := by decide +kernel
theorem kb_str_tuple : kitB "str" "tuple" = some false := by decide +kernel
theorem kb_list_tuple : kitB "list" "tuple" = some false := by decide +kernel
theorem kb_tuple_tuple : kitB "tuple" "tuple" = some true := by decide +kernel
theorem kb_dict_tuple : kitB "dict" "tuple" = some false := by decide +kernel
@[simp] theorem isTy_tuple_non : isTy "tuple" .non = .ok false := by unfold isTy tyNm; simp only [kb_NoneType_tuple]
@[simp] theorem isTy_tuple_bl {b : Bool} : isTy "tuple" (.bl b) = .ok false := by unfold isTy tyNm; simp only [kb_bool_tuple]
@[simp] theorem isTy_tuple_int {b : Int} : isTy "tuple" (.int b) = .ok false := by unfold isTy tyNm; simp only [kb_int_tuple]
@[simp] theorem isTy_tuple_str {b : Str} : isTy "tuple" (.str b) = .ok false := by unfold isTy tyNm; simp only [kb_str_tuple]
@[simp] theorem isTy_tuple_lst {b : List D} : isTy "tuple" (.lst b) = .ok false := by unfold isTy tyNm; simp only [kb_list_tuple]
@[simp] theorem isTy_tuple_frl {b : List D} : isTy "tuple" (.frl b) = .ok false := by unfold isTy tyNm; simp only [kb_list_tuple]
@[simp] theorem isTy_tuple_tup {b : List D} : isTy "tuple" (.tup b) = .ok true := by unfold isTy tyNm; simp only [kb_tuple_tuple]
@[simp] theorem isTy_tuple_dic {k : List Key} {b : List D} : isTy "tuple" (.dic k b) = .ok false := by unfold isTy tyNm; simp only [kb_dict_tuple]
@[simp] theorem isTy_tuple_dit {k : List (List Key)} {b : List D} : isTy "tuple" (.dit k b) = .ok false := by unfold isTy tyNm; simp only [kb_dict_tuple]
theorem kb_NoneType_str : kitB "NoneType" "str" = some false := by decide +kernel
theorem kb_bool_str : kitB "bool" "str" = some false := by decide +kernel
theorem kb_int_str : kitB "int" "str" = some false := by decide +kernel
theorem kb_str_str : kitB "str" "str" = some true := by decide +kernel
theorem kb_list_str : kitB "list" "str" = some false := by decide +kernel
theorem kb_tuple_str : kitB "tuple" "str" = some false := by decide +kernel
theorem kb_dict_str : kitB "dict" "str" = some false := by decide +kernel
@[simp] theorem isTy_str_non : isTy "str" .non = .ok false := by unfold isTy tyNm; simp only [kb_NoneType_str]
@[simp] theorem isTy_str_bl {b : Bool} : isTy "str" (.bl b) = .ok false := by unfold isTy tyNm; simp only [kb_bool_str]
@[simp] theorem isTy_str_int {b : Int} : isTy "str" (.int b) = .ok false := by unfold isTy tyNm; simp only [kb_int_str]
@[simp] theorem isTy_str_str {b : Str} : isTy "str" (.str b) = .ok true := by unfold isTy tyNm; simp only [kb_str_str]
@[simp] theorem isTy_str_lst {b : List D} : isTy "str" (.lst b) = .ok false := by unfold isTy tyNm; simp only [kb_list_str]
@[simp] theorem isTy_str_frl {b : List D} : isTy "str" (.frl b) = .ok false := by unfold isTy tyNm; simp only [kb_list_str]
@[simp] theorem isTy_str_tup {b : List D} : isTy "str" (.tup b) = .ok false := by unfold isTy tyNm; simp only [kb_tuple_str]
@[simp] theorem isTy_str_dic {k : List Key} {b : List D} : isTy "str" (.dic k b) = .ok false := by unfold isTy tyNm; simp only [kb_dict_str]
@[simp] theorem isTy_str_dit {k : List (List Key)} {b : List D} : isTy "str" (.dit k b) = .ok false := by unfold isTy tyNm; simp only [kb_dict_str]
theorem kb_NoneType_dict : kitB "NoneType" "dict" = some false := by decide +kernel
theorem kb_bool_dict : kitB "bool" "dict" = some false := by decide +kernel
theorem kb_int_dict : kitB "int" "dict" = some false := by decide +kernel
theorem kb_str_dict : kitB "str" "dict" = some false := by decide +kernel
theorem kb_list_dict : kitB "list" "dict" = some false := by decide +kernel
theorem kb_tuple_dict : kitB "tuple" "dict" = some false := by decide +kernel
theorem kb_dict_dict : kitB "dict" "dict" = some true := by decide +kernel
@[simp] theorem isTy_dict_non : isTy "dict" .non = .ok false := by unfold isTy tyNm; simp only [kb_NoneType_dict]
@[simp] theorem isTy_dict_bl {b : Bool} : isTy "dict" (.bl b) = .ok false := by unfold isTy tyNm; simp only [kb_bool_dict]
@[simp] theorem isTy_dict_int {b : Int} : isTy "dict" (.int b) = .ok false := by unfold isTy tyNm; simp only [kb_int_dict]
@[simp] theorem isTy_dict_str {b : Str} : isTy "dict" (.str b) = .ok false := by unfold isTy tyNm; simp only [kb_str_dict]
@[simp] theorem isTy_dict_lst {b : List D} : isTy "dict" (.lst b) = .ok false := by unfold isTy tyNm; simp only [kb_list_dict]
@[simp] theorem isTy_dict_frl {b : List D} : isTy "dict" (.frl b) = .ok false := by unfold isTy tyNm; simp only [kb_list_dict]
@[simp] theorem isTy_dict_tup {b : List D} : isTy "dict" (.tup b) = .ok false := by unfold isTy tyNm; simp only [kb_tuple_dict]
@[simp] theorem isTy_dict_dic {k : List Key} {b : List D} : isTy "dict" (.dic k b) = .ok true := by unfold isTy tyNm; simp only [kb_dict_dict]
@[simp] theorem isTy_dict_dit {k : List (List Key)} {b : List D} : isTy "dict" (.dit k b) = .ok true := by unfold isTy tyNm; simp only [kb_dict_dict]
@[simp] theorem trD_bl {b : Bool} : trD (.bl b) = .ok b := rfl
@[simp] theorem trD_non : trD .non = .ok false := rfl
@[simp] theorem trD_int {i : Int} : trD (.int i) = .ok (i != 0) := rfl
@[simp] theorem trD_lst {xs : List D} : trD (.lst xs) = .ok (!xs.isEmpty) := rfl
@[simp] theorem trD_frl {xs : List D} : trD (.frl xs) = .ok (!xs.isEmpty) := rfl
@[simp] theorem trD_tup {xs : List D} : trD (.tup xs) = .ok (!xs.isEmpty) := rfl
@[simp] theorem dIsi_ap {T : String} : dIsi T d = (isTy T d).bind fun b => .ok (.bl b) := rfl
@[simp] theorem dIsi2_ap {T U : String} : dIsi2 T U d = (isTy T d).bind fun b => if b = true then .ok (.bl true) else (isTy U d).bind fun c => .ok (.bl c) := rfl
end
end Da
namespace Da
open PySem PySem.Spec L2
/-- a turn's end: N goes on, Q is wanted of what leaves the loop -/
def Turn (N : Env → Prop) (Q : Res Fl → Prop) : Res Fl → Prop
  | .ok (.nx ρ) => N ρ
  | .ok (.ct ρ) => N ρ
  | .ok (.bk ρ) => Q (.ok (.nx ρ))
  | .ok (.rt d) => Q (.ok (.rt d))
  | .ok (.xc c fs ρ) => Q (.ok (.xc c fs ρ))
  | .ex _ _ => False
  | .er => False
@[simp] theorem Turn_nx {N : Env → Prop} {Q : Res Fl → Prop} {ρ : Env} : Turn N Q (.ok (.nx ρ)) = N ρ := rfl
@[simp] theorem Turn_ct {N : Env → Prop} {Q : Res Fl → Prop} {ρ : Env} : Turn N Q (.ok (.ct ρ)) = N ρ := rfl
@[simp] theorem Turn_bk {N : Env → Prop} {Q : Res Fl → Prop} {ρ : Env} : Turn N Q (.ok (.bk ρ)) = Q (.ok (.nx ρ)) := rfl
@[simp] theorem Turn_rt {N : Env → Prop} {Q : Res Fl → Prop} {d : D} : Turn N Q (.ok (.rt d)) = Q (.ok (.rt d)) := rfl
@[simp] theorem rng_length {lo : Int} {n : Nat} : (rng lo n).length = n := by unfold rng; rw [List.length_map, List.length_range]
theorem fFor_ap {it : Env → Res (List D)} {g : D → Env → Res Env} {F : FS} {ρ : Env} {xs : List D} (h : it ρ = .ok xs) : fFor it g F ρ = forGo g F xs ρ := by unfold fFor; rw [h]; rfl
@[simp] theorem startE_one {n : Nat} {a : D} : startE (n + 1) [a] = some a :: List.replicate n none := by simp [startE]
@[simp] theorem startE_two {n : Nat} {a b : D} : startE (n + 2) [a, b] = some a :: some b :: List.replicate n none := by simp [startE]
@[simp] theorem chk_one {f : List D → Res D} {a : D} : chk 1 f [a] = f [a] := rfl
@[simp] theorem chk_two {f : List D → Res D} {a b : D} : chk 2 f [a, b] = f [a, b] := rfl
@[simp] theorem chk_three {f : List D → Res D} {a b c : D} : chk 3 f [a, b, c] = f [a, b, c] := rfl
@[simp] theorem chk_four {f : List D → Res D} {a b c d : D} : chk 4 f [a, b, c, d] = f [a, b, c, d] := rfl
@[simp] theorem gLstD_nil : gLstD [] = .ok (.lst []) := rfl
@[simp] theorem gLstD_cons {d : D} {ds : List D} (h : ds.length < 100000 := by decide) : gLstD (d :: ds) = .ok (.lst (d :: ds)) := by
  unfold gLstD
  rw [if_pos (by rw [List.length_cons]; omega)]
theorem dIx_lst {xs : List D} {i : Int} {d : D} (h : atI xs i = some d) : dIx (.lst xs) (.int i) = .ok d := by simp only [dIx, h]
theorem dIx_tup {xs : List D} {i : Int} {d : D} (h : atI xs i = some d) : dIx (.tup xs) (.int i) = .ok d := by simp only [dIx, h]
theorem dIx_frl {xs : List D} {i : Int} {d : D} (h : atI xs i = some d) : dIx (.frl xs) (.int i) = .ok d := by simp only [dIx, h]
end Da
namespace Da
open PySem PySem.Spec L2
def F_law_whole : FS := (fRet (fBv (fAnd (fB (f1 (dIsi "int") (fV 0))) (fB (fBv (fNot (fB (f1 (dIsi "bool") (fV 0)))))))))
def m_law_whole : List D → Res D := runF 1 .sh F_law_whole
def F_law_cell : FS := (fSeq (fIfS (fB (f2 dLt (fV 1) (fOn (on1 dLen) (fA (fV 0) fA0)))) (fRet (f2 dIx (fV 0) (fV 1))) fNext)
    (fSeq (fSet 2 (fC (.int 17)))
    (fSeq (fFor (fL (fV 0)) (gN 3) (fSet 2 (f2 dMod (fOn (on1 dInt) (fA (f2 dAdd (f2 dMul (fV 2) (fC (.int 31))) (f2 dMod (fOn (on1 dInt) (fA (fV 3) fA0)) (fC (.int 1000003)))) fA0)) (fC (.int 1000003)))))
    (fRet (f2 dMod (fOn (on1 dInt) (fA (f2 dMul (f2 dMul (f2 dAdd (fV 2) (fC (.int 7))) (f2 dAdd (fV 1) (fC (.int 3)))) (fC (.int 69621))) fA0)) (fC (.int 2147483647)))))))
def m_law_cell : List D → Res D := runF 4 .sh F_law_cell
def F_law_digits : FS := (fSeq (fSet 2 (fOn gLstD fA0))
    (fSeq (fSet 3 (fOn (on1 dInt) (fA (fV 0) fA0)))
    (fSeq (fIfS (fB (f2 dGe (fV 3) (f2 dPow (fC (.int 10)) (fC (.int 18))))) (fSeq (fSet 3 (f2 dSub (fV 3) (f2 dPow (fC (.int 10)) (fC (.int 18)))))
    (fSeq (fFor (fL (fV 1)) (gN 6) (fSeq (fApp 2 (f2 dMod (fOn (on1 dInt) (fA (fV 3) fA0)) (fV 6)))
    (fSet 3 (f2 dDiv (fOn (on1 dInt) (fA (fV 3) fA0)) (fV 6)))))
    (fRet (fV 2)))) fNext)
    (fSeq (fSet 4 (f2 dMod (fOn (on1 dInt) (fA (fV 3) fA0)) (fC (.int 2147483629))))
    (fSeq (fFor (fR1 (fA (fOn (on1 dLen) (fA (fV 1) fA0)) fA0)) (gN 5) (fSeq (fSet 4 (f2 dMod (fOn (on1 dInt) (fA (f2 dAdd (f2 dAdd (f2 dMul (fV 4) (fC (.int 48271))) (f2 dMul (fC (.int 974711)) (fV 5))) (fC (.int 12345))) fA0)) (fC (.int 2147483647))))
    (fSeq (fSet 7 (f2 dMod (fOn (on1 dInt) (fA (f2 dMul (fV 4) (f2 dAdd (f2 dDiv (fV 4) (fC (.int 65537))) (fC (.int 3)))) fA0)) (fC (.int 2147483629))))
    (fApp 2 (f2 dMod (f2 dDiv (fV 7) (fC (.int 19))) (f2 dIx (fV 1) (fV 5)))))))
    (fRet (fV 2)))))))
def m_law_digits : List D → Res D := runF 8 .ow F_law_digits
/-- a row of digits below the sizes -/
def Digs (sizes row : List Int) : Prop := row.length = sizes.length ∧ ∀ (i : Nat) (s r : Int), sizes[i]? = some s → row[i]? = some r → 0 ≤ r ∧ r < s
theorem Digs.snoc {sizes row : List Int} {n : Nat} {s r : Int} (h : Digs (sizes.take n) row) (hs : sizes[n]? = some s) (h0 : 0 ≤ r) (h1 : r < s) : Digs (sizes.take (n + 1)) (row ++ [r]) := by
  obtain ⟨hl, hd⟩ := h
  have hn := (List.getElem?_eq_some_iff.mp hs).1
  rw [List.length_take, Nat.min_eq_left (by omega)] at hl
  refine ⟨by rw [List.length_append, List.length_take, hl, Nat.min_eq_left (by omega)]; rfl, fun i s' r' e1 e2 => ?_⟩
  rw [List.getElem?_take] at e1
  split at e1
  · rename_i hi
    by_cases hin : i < n
    · exact hd i s' r' (by rw [List.getElem?_take, if_pos hin]; exact e1) (by rw [List.getElem?_append_left (by omega)] at e2; exact e2)
    · have : i = n := by omega
      subst this
      rw [hs] at e1
      cases e1
      rw [← hl, List.getElem?_concat_length] at e2
      cases e2
      exact ⟨h0, h1⟩
  · cases e1
end Da
namespace Da
open PySem PySem.Spec L2
/-- the data of the slots vs forgotten -/
def wipeD (ρ : Env) : List Nat → Env
  | [] => ρ
  | v :: vs => (wipeD ρ vs).set v none
/-- the items of a comprehension -/
def lcGo (g : D → Env → Res Env) (c : Env → Res Bool) (f : Env → Res D) (ρ : Env) : List D → Res (List D)
  | [] => .ok []
  | x :: xs => match g x ρ with
    | .ok ρ1 => (match c ρ1 with
      | .ok b => if b = true then (match f ρ1 with
        | .ok y => (match lcGo g c f ρ xs with
          | .ok ys => .ok (y :: ys)
          | _ => .er)
        | _ => .er) else lcGo g c f ρ xs
      | _ => .er)
    | _ => .er
def asLst (r : Res (List D)) : Res D := match r with
  | .ok ys => .ok (.lst ys)
  | _ => .er
def fLc (vs : List Nat) (it : Env → Res (List D)) (g : D → Env → Res Env) (c : Env → Res Bool) (f : Env → Res D) : Env → Res D := fun ρ => (it ρ).bind fun xs => if szOk xs.length = true then asLst (lcGo g c f (wipeD ρ vs) xs) else .er
def fYes : Env → Res Bool := fun _ => .ok true
def EF : WX := fun _ _ _ _ => False
theorem takesF {X : Cx} : Takes X EF := fun _ _ x => by
  obtain ⟨_, _, _, _, _, _, _, _, _, _, _, _, z⟩ := x
  exact z.2.2.2.2.elim
structure JTs (X : Cx) (E : WX) (m : Mds) (es : List Expr) (f : Env → Res Bool) : Prop where
  pt : PTs X es (tT X.K X.mg E m f)
section
variable {K : PySem.W.Frag} {mg : Str → Option Value} {m : Mds} {F : Nat → List Addr} {S S' H H' : Hp} {σ : L2.St} {ρ : Env}
theorem EnvF.wipe (h : EnvF K mg m F S H σ ρ) : ∀ vs : List Nat, EnvF K mg m F S H (L2.wipe σ vs) (wipeD ρ vs)
  | [] => h
  | v :: vs => by
    have ih := EnvF.wipe h vs
    have key : ∀ {j : Nat} {d : D}, ((wipeD ρ vs).set v none)[j]? = some (some d) → j ≠ v ∧ (wipeD ρ vs)[j]? = some (some d) := fun {j d} ej => by
      by_cases hj : v = j
      · subst hj
        rw [List.getElem?_set, if_pos rfl] at ej
        split at ej <;> cases ej
      · rw [List.getElem?_set_ne hj] at ej
        exact ⟨fun z => hj z.symm, ej⟩
    unfold L2.wipe wipeD
    refine ⟨by rw [List.length_set, List.length_set]; exact ih.len, fun i d e => ?_, fun i d e => ih.nd i d (key e).2, fun i j d e hij e1 e2 => ih.apart i j d e hij (key e1).2 (key e2).2⟩
    obtain ⟨w, e1, o⟩ := ih.at_ i d (key e).2
    exact ⟨w, by rw [List.getElem?_set_ne (Ne.symm (key e).1)]; exact e1, o⟩
theorem EnvM.wipe (h : EnvM K mg m S H σ ρ) (vs : List Nat) : EnvM K mg m S H (L2.wipe σ vs) (wipeD ρ vs) := by
  obtain ⟨hs, F, h⟩ := h
  exact ⟨hs, F, h.wipe vs⟩
/-- slots as of a body that nothing was before -/
theorem EnvM.bare (h : EnvM K mg m S H σ ρ) : ∃ F, StF K mg m (fun _ => none) (fun _ => none) S F σ ρ H := by
  obtain ⟨hs, F, h⟩ := h
  exact ⟨F, ⟨(fun _ _ e => nomatch e), (fun _ _ e => nomatch e), hs, (fun _ _ => .inr rfl)⟩, h, (fun _ _ _ _ _ => rfl)⟩
theorem wipe_at {vs : List Nat} {j : Nat} : (L2.wipe σ vs)[j]? = if j ∈ vs ∧ j < σ.length then some none else σ[j]? := by
  induction vs with
  | nil => simp [L2.wipe]
  | cons v vs ih =>
    unfold L2.wipe
    rw [List.getElem?_set, L2.wipe_length, ih]
    by_cases hv : v = j
    · subst hv
      by_cases hl : v < σ.length
      · simp [hl]
      · simp [hl]
    · have : ¬ j = v := fun z => hv z.symm
      simp [hv, this]
theorem wipe_eq {σ' : L2.St} {vs ts : List Nat} (hl : σ'.length = σ.length) (hj : ∀ j, j ∉ ts → σ'[j]? = (L2.wipe σ vs)[j]?) (hts : ∀ t ∈ ts, t ∈ vs) : L2.wipe σ' vs = L2.wipe σ vs := by
  refine List.ext_getElem? fun j => ?_
  rw [wipe_at, wipe_at, hl]
  by_cases hv : j ∈ vs
  · by_cases hlt : j < σ.length
    · rw [if_pos ⟨hv, hlt⟩, if_pos ⟨hv, hlt⟩]
    · rw [if_neg (fun z => hlt z.2), if_neg (fun z => hlt z.2), List.getElem?_eq_none (by omega), List.getElem?_eq_none (by omega)]
  · rw [if_neg (fun z => hv z.1), if_neg (fun z => hv z.1)]
    have := hj j (fun z => hv (hts j z))
    rw [wipe_at, if_neg (fun z => hv z.1)] at this
    exact this
/-- a hidden new object is written -/
theorem Step.write {p : Addr} {o : HO} (st : Step S H S' H') (hs : S' p = none) (hp : H p = none) : Step S H S' (upd H' p o) := by
  refine ⟨fun b x e => ?_, st.ss, fun b x e => ?_, st.new⟩
  · rw [upd_ne (ne_of_none e hp)]
    exact st.hh b x e
  · rw [upd_ne (ne_of_none e hs)]
    exact st.sub b x e
end
section
variable {K : PySem.W.Frag} {mg : Str → Option Value} {E : WX} {m : Mds} {it : Env → Res (List D)} {g : D → Env → Res Env} {c : Env → Res Bool} {f : Env → Res D} {ts vs : List Nat}
/-- the list under way: its items so far, what is still to come -/
def LcW (K : PySem.W.Frag) (mg : Str → Option Value) (g : D → Env → Res Env) (c : Env → Res Bool) (f : Env → Res D) (ρ : Env) (xs ys : List D) (D0 : Addr) (S1 H1 : Hp) (i : Nat) (H : Hp) : Prop :=
  ∃ S2 ws ds rest, Step S1 H1 S2 H ∧ S2 D0 = none ∧ H D0 = some (.lst ws) ∧ RepL K mg S2 ws ds ∧ lcGo g c f ρ (xs.drop i) = .ok rest ∧ ys = ds ++ rest ∧ ds.length ≤ i
theorem lc_ok {σ : L2.St} {H : Hp} {Q : VK} (hts : ∀ t ∈ ts, t ∈ vs) (h : tE K mg E m .ow (fLc vs it g c f) σ H Q) :
    tLc (tI K mg E m it) (tGD K mg m ts g) (tT K mg EF m c) (tE K mg EF m .sh f) vs σ H Q := by
  obtain ⟨S, ρ, hm, hp⟩ := h
  refine ⟨S, ρ, hm, (Post.bind hp).imp fun xs S1 H1 s1 k J w D0 hD => ?_⟩
  split at k
  · rename_i hz
    have hz := szOk_ok hz
    unfold asLst at k
    split at k
    · rename_i ys eg
      refine ⟨fun i n H => n = xs.length - i ∧ i ≤ xs.length ∧ LcW K mg g c f (wipeD ρ vs) xs ys D0 S1 H1 i H, ⟨xs.length, by simp, Nat.zero_le _, S1, [], [], ys, Step.hid s1.sub hD, s1.sub.free hD, upd_same, .nil, eg, rfl, Nat.le_refl _⟩, ?_⟩
      rintro i n H2 ⟨rfl, hi, S2, ws, ds, rest, st2, hs2, hd2, rv, el, ey, hn⟩
      by_cases hlt : i < xs.length
      · obtain ⟨hgo, hyl⟩ := w.go i xs[i] S2 H2 (List.getElem?_eq_getElem hlt) st2.ss st2.sub
        refine .inr ⟨hgo, LcW K mg g c f (wipeD ρ vs) xs ys D0 S1 H1 (i + 1), fun H' z => ⟨xs.length - (i + 1), by omega, rfl, hlt, z⟩, fun x H3 y => ?_⟩
        obtain ⟨S3, s3, r3⟩ := hyl x H3 y
        rw [List.drop_eq_getElem_cons hlt] at el
        unfold lcGo at el
        split at el
        · rename_i ρ1 eg1
          have st3 := st2.trans s3
          obtain ⟨F, stF⟩ := (((hm.step s1).step st3).wipe vs).bare
          refine ⟨_, _, S3, F, wipeD ρ vs, xs[i], stF, r3, ?_⟩
          rw [eg1]
          intro σ4 S4 F4 H4 st4 s4 hfr
          refine ⟨wipe_eq (by rw [hfr.1, L2.wipe_length]) hfr.2 hts, S4, ρ1, st4.envM, ?_⟩
          split at el
          · rename_i b ec
            rw [ec]
            intro S5 H5 s5
            have a5 := (s3.trans s4).trans s5
            have st5 := st2.trans a5
            have hd5 := a5.hh _ _ hd2
            have hs5 := a5.out hs2 hd2
            cases b with
            | false =>
              rw [if_neg (by decide)] at el
              show LcW K mg g c f (wipeD ρ vs) xs ys D0 S1 H1 (i + 1) H5
              exact ⟨S5, ws, ds, rest, st5, hs5, hd5, rv.mono a5.ss, el, ey, by omega⟩
            | true =>
              rw [if_pos rfl] at el
              show tE K mg EF m Md.sh f σ4 H5 _
              split at el
              · rename_i y' ef
                refine ⟨S5, ρ1, (st4.envM).step s5, ?_⟩
                rw [ef]
                intro v S6 H6 fp s6 o _ _
                have a6 := a5.trans s6
                split at el
                · rename_i rest' er
                  cases el
                  refine ⟨ws, a6.hh _ _ hd2, by rw [rv.len]; omega, S6, ws ++ [v], ds ++ [y'], rest', (st2.trans a6).write (a6.out hs2 hd2) hD, a6.out hs2 hd2, upd_same, (rv.mono a6.ss).snoc o.1, er, by rw [ey]; simp, by rw [List.length_append]; simp; omega⟩
                · cases el
              · cases el
          · cases el
        · cases el
      · have e : i = xs.length := by omega
        subst e
        rw [List.drop_length] at el
        cases el
        rw [List.append_nil] at ey
        subst ey
        exact .inl ⟨w.stop S2 H2 st2.ss st2.sub, k _ S2 H2 [D0] st2 ⟨D0, ws, _, rfl, rfl, rfl, hs2, hd2, rv⟩ (by simp) (fun a z => by
          have : a = D0 := by simpa using z
          rw [this]; exact hD)⟩
    · exact k.elim
  · exact k.elim
end
section
variable {X : Cx} {E : WX} {L : Lp} {m : Mds} {ts : List Nat} {N0 ps0 : List Str} {sc0 : Scope} {elt tg iter e : Expr} {ifs : List Expr} {scope : Scope} {own : List (Str × Nat)} {pos : Pos} {it : Env → Res (List D)} {g : D → Env → Res Env} {c : Env → Res Bool} {f : Env → Res D}
theorem jts_nil : JTs X E m [] fYes := ⟨⟨fun pins s σ H Q I q => pts_nil.run pins s σ H Q I (by
  obtain ⟨S, ρ, hm, hp⟩ := q
  exact hp S H (Step.refl hm.1))⟩⟩
theorem jts_one (h : JT X E m e c) : JTs X E m [e] c := ⟨pts_one h.pt⟩
theorem je_lc (Sc : FnScope N0 ps0 sc0) (own : List (Str × Nat)) (hi : JI X E m tg iter it)
    (hg : ∀ (s : Shared) (H : Hp) (C : Addr) (cl : List (Str × Addr)) (fp : List Addr), JG (X.blk s H scope (compEnvC scope cl C X.env) fp) m ts tg g) (ht : ∀ (s : Shared) (H : Hp) (C : Addr) (cl : List (Str × Addr)) (fp : List Addr), JTs (X.blk s H scope (compEnvC scope cl C X.env) fp) EF m ifs c)
    (he : ∀ (s : Shared) (H : Hp) (C : Addr) (cl : List (Str × Addr)) (fp : List Addr), JE (X.blk s H scope (compEnvC scope cl C X.env) fp) EF m .sh elt f) (hc : X.calm = true := by rfl) (hN0 : X.N = N0 := by rfl) (hsc : X.env.scope = sc0 := by rfl) (ok : blkC N0 sc0 scope own = true := by decide +kernel) (hts : ∀ t ∈ ts, t ∈ own.map (·.2) := by decide)
    (hs : ∀ x, foldedSetIterable iter X.env x = pure x := by intro _; rfl) : JE X E m .ow (.ListComp elt [⟨tg, iter, ifs, 0⟩] scope pos) (fLc (own.map (·.2)) it g c f) :=
  ⟨PEimp (pe_lc (g := tGD X.K X.mg m ts g) (tt := tT X.K X.mg EF m c) (te := tE X.K X.mg EF m .sh f) hc (by rw [hN0]; exact Sc.nd) hi.pi (blkOk_by (by rw [hN0, hsc]; exact ok)) (fun s H C cl fp => (hg s H C cl fp).pg) (fun s H C cl fp => (ht s H C cl fp).pt) (fun s H C cl fp => (he s H C cl fp).pe) hs) fun σ H Q h => lc_ok hts h⟩
/-- .. within another comprehension's block -/
theorem je_lcB {scO : Scope} (Sc : FnScope N0 ps0 sc0) (own : List (Str × Nat)) (hi : JI X E m tg iter it)
    (hg : ∀ (s : Shared) (H : Hp) (C : Addr) (cl : List (Str × Addr)) (fp : List Addr), JG (X.blk s H scope (compEnvC scope cl C X.env) fp) m ts tg g) (ht : ∀ (s : Shared) (H : Hp) (C : Addr) (cl : List (Str × Addr)) (fp : List Addr), JTs (X.blk s H scope (compEnvC scope cl C X.env) fp) EF m ifs c)
    (he : ∀ (s : Shared) (H : Hp) (C : Addr) (cl : List (Str × Addr)) (fp : List Addr), JE (X.blk s H scope (compEnvC scope cl C X.env) fp) EF m .sh elt f) (hc : X.calm = true := by rfl) (hN0 : X.N = N0 := by rfl) (hsc : X.env.scope = relS scO sc0 := by rfl) (ok : blkC N0 (relS scO sc0) scope own = true := by decide +kernel) (hts : ∀ t ∈ ts, t ∈ own.map (·.2) := by decide)
    (hs : ∀ x, foldedSetIterable iter X.env x = pure x := by intro _; rfl) : JE X E m .ow (.ListComp elt [⟨tg, iter, ifs, 0⟩] scope pos) (fLc (own.map (·.2)) it g c f) :=
  ⟨PEimp (pe_lc (g := tGD X.K X.mg m ts g) (tt := tT X.K X.mg EF m c) (te := tE X.K X.mg EF m .sh f) hc (by rw [hN0]; exact Sc.nd) hi.pi (blkOk_by (by rw [hN0, hsc]; exact ok)) (fun s H C cl fp => (hg s H C cl fp).pg) (fun s H C cl fp => (ht s H C cl fp).pt) (fun s H C cl fp => (he s H C cl fp).pe) hs) fun σ H Q h => lc_ok hts h⟩
theorem js_setLc (i : Nat) {y : Str} {py spos : Pos} (Sc : FnScope N0 ps0 sc0) (own : List (Str × Nat)) (hi : JI X E m tg iter it)
    (hg : ∀ (s : Shared) (H : Hp) (C : Addr) (cl : List (Str × Addr)) (fp : List Addr), JG (X.blk s H scope (compEnvC scope cl C X.env) fp) m ts tg g) (ht : ∀ (s : Shared) (H : Hp) (C : Addr) (cl : List (Str × Addr)) (fp : List Addr), JTs (X.blk s H scope (compEnvC scope cl C X.env) fp) EF m ifs c)
    (he : ∀ (s : Shared) (H : Hp) (C : Addr) (cl : List (Str × Addr)) (fp : List Addr), JE (X.blk s H scope (compEnvC scope cl C X.env) fp) EF m .sh elt f) (hl : i < m.length := by first | decide | simp) (hc : X.calm = true := by rfl) (hy : X.N[i]? = some y := by rfl) (hyl : X.env.scope.names.lookup y = some .local := by rfl)
    (hsw : swapsWith (.ListComp elt [⟨tg, iter, ifs, 0⟩] scope pos) (some (.Name y py)) spos.line X.env = pure true := by rfl) (hN0 : X.N = N0 := by rfl) (hsc : X.env.scope = sc0 := by rfl) (ok : blkC N0 sc0 scope own = true := by decide +kernel) (hts : ∀ t ∈ ts, t ∈ own.map (·.2) := by decide)
    (hs : ∀ x, foldedSetIterable iter X.env x = pure x := by intro _; rfl) : JS X E L m (m.set i .ow) (.Assign [.Name y py] (.ListComp elt [⟨tg, iter, ifs, 0⟩] scope pos) spos) (fSet i (fLc (own.map (·.2)) it g c f)) := by
  refine ⟨PSimp (ps_setLc (g := tGD X.K X.mg m ts g) (tt := tT X.K X.mg EF m c) (te := tE X.K X.mg EF m .sh f) hc (by rw [hN0]; exact Sc.nd) hy hyl hsw hi.pi (blkOk_by (by rw [hN0, hsc]; exact ok)) (fun s H C cl fp => (hg s H C cl fp).pg) (fun s H C cl fp => (ht s H C cl fp).pt) (fun s H C cl fp => (he s H C cl fp).pe) hs) fun D σ H h => ?_⟩
  obtain ⟨S0, H0, ρ, ⟨S, Fp, st⟩, p⟩ := h
  refine lc_ok hts ⟨S, ρ, st.envM, (lift_post st p).postM fun d v S1 H1 fp s1 o hn hf k => ?_⟩
  refine k _ _ (StF.stM ((st.step s1).set hl o hn (fun a ha => st.1.hh.free (hf a ha)) fun j e' hj ej a ha z => ?_))
  obtain ⟨w, _, o'⟩ := st.2.1.at_ j e' ej
  obtain ⟨_, u, hu⟩ := o'.out ha
  rw [hf a z] at hu
  cases hu
end
end Da
namespace Da
open PySem PySem.Spec L2
def D.en (d : D) : PyData := (D.py d).getD .none
def leD (x y : D) : Bool := PySem.W.dataLe false D.en x y
def SrtOk (ds : List D) : Prop := (∃ bs, D.pys ds = some bs) ∧ PySem.W.AllAlike (ds.map D.en) ∧ PySem.W.Sortable (ds.map D.en) ∧ ∀ d ∈ ds, d.en.depth ≤ 20
def srtOk (ds : List D) : Bool := stuck (SrtOk ds)
def dSorted : D → Res D
  | .lst ds => if srtOk ds = true then .ok (.lst (ds.mergeSort leD)) else .er
  | .tup ds => if srtOk ds = true then .ok (.lst (ds.mergeSort leD)) else .er
  | .frl ds => if srtOk ds = true then .ok (.lst (ds.mergeSort leD)) else .er
  | _ => .er
theorem pys_some : ∀ {ds : List D} {bs : List PyData}, D.pys ds = some bs → bs = ds.map D.en ∧ ∀ d ∈ ds, D.py d = some d.en
  | [], bs, e => by cases e; exact ⟨rfl, fun d h => nomatch h⟩
  | d :: ds, bs, e => by
    unfold D.pys at e
    split at e
    · rename_i y ys e1 e2
      cases e
      obtain ⟨h1, h2⟩ := pys_some e2
      have hy : d.en = y := by unfold D.en; rw [e1]; rfl
      refine ⟨by rw [List.map_cons, ← h1, hy], fun d' hd => ?_⟩
      rcases List.mem_cons.mp hd with rfl | hd
      · rw [hy]; exact e1
      · exact h2 d' hd
    · cases e
mutual
theorem reads_off {h : Heap} {a : Addr} (ha : h.get? a = none) : ∀ (d : PyData) (v : Value) (as : List Addr), PySem.W.alike d d = true → Reads h v d as → a ∉ as
  | .none, _, _, _, r => by cases r; simp
  | .bool _, _, _, _, r => by cases r; simp
  | .int _, _, _, _, r => by cases r; simp
  | .str _, _, _, _, r => by cases r; simp
  | .list xs, _, _, hal, r => by
    cases r with
    | list h1 h2 h3 h4 =>
      rw [List.mem_cons, not_or]
      exact ⟨fun e => by rw [e, h1] at ha; (cases ha), readsAll_off ha xs _ _ (by simpa [PySem.W.alike] using hal) h4⟩
  | .tuple xs, _, _, hal, r => by
    cases r with
    | tuple h1 h2 h3 h4 => exact readsAll_off ha xs _ _ (by simpa [PySem.W.alike] using hal) h4
  | .dict _, _, _, hal, _ => absurd hal (by simp [PySem.W.alike])
theorem readsAll_off {h : Heap} {a : Addr} (ha : h.get? a = none) : ∀ (ds : List PyData) (vs : List Value) (as : List Addr), PySem.W.alikeAll ds ds = true → ReadsAll h vs ds as → a ∉ as
  | [], _, _, _, r => by cases r; simp
  | d :: ds, _, _, hal, r => by
    cases r with
    | cons h1 h2 =>
      rw [List.mem_append, not_or]
      exact ⟨reads_off ha d _ _ (PySem.W.alike_all_cons hal).1 h1, readsAll_off ha ds _ _ (PySem.W.alike_all_cons hal).2 h2⟩
end
section
variable {prog : Program} {w : World} {A : Around} {Er : Value → Shared → Prop} {s : Shared} {β : Type} {its : List Value} {bs : List β} {enc : β → PyData} {R : Value → β → Prop}
theorem sorted_seq {l : Addr} {T : String} {o : Obj} {n : Nat} {Q : Value → Shared → Prop} (hT : T = "list" ∨ T = "tuple") (ho : s.heap.get? l = some o) (hc : o.cls = .type T) (hd : o.data = .seq its.toArray n) (hz : its.length ≤ sizeLine)
    (e : PySem.W.EachIs R its bs) (er : PySem.W.EachIs (fun v b => ∃ as, Reads s.heap v (enc b) as) its bs) (hal : PySem.W.AllAlike (bs.map enc)) (hk : PySem.W.Sortable (bs.map enc)) (hu : ∀ b, b ∈ bs → A.units + 8 + (enc b).depth < cLine)
    (h : ∀ (h1 h2 : Heap) (out : List Value) (ep : Nat), (∀ b o, s.heap.get? b = some o → h1.get? b = some o) → (∀ b o, h1.get? b = some o → h2.get? b = some o) → h2.get? h1.objs.size = some (PyProof.Rows.seqObj "list" (List.toArray out) ep) → PySem.W.EachIs R out (bs.mergeSort (PySem.W.dataLe false enc)) → Q (.ref h1.objs.size) { s with heap := h2 }) :
    wpAny (model prog w) A (call (.builtin "sorted") [.ref l]) Q Er s := by
  refine Calls.call_function_entry PyProof.Rows.kind_sorted PyProof.Rows.plain_sorted PyProof.Rows.entry_sorted (PyProof.Rows.args_sorted1 _) ?_
  unfold Builtin.«sorted»
  refine wpAny_bind (m := checkCount "sorted" 1 1 _) (wpAny_pure ?_)
  refine wpAny_bind (wpAny_collect_seq l hT ho hc hd (fun h1 k1 => ?_) (by rw [List.size_toArray]; exact hz))
  have hl : bs.length ≤ sizeLine := by rw [← e.length]; exact hz
  refine wpAny_bind (wpAny_newList ?_ hz)
  have hS : (h1.push { cls := .type "list", data := .seq its.toArray }).get? h1.objs.size = some (PyProof.Rows.seqObj "list" its.toArray 0) := Heap.get?_push_size _ rfl
  have k2 : ∀ b o, h1.get? b = some o → (h1.push { cls := .type "list", data := .seq its.toArray }).get? b = some o := fun b o q => Heap.get?_push_of_some _ q
  have off : h1.get? h1.objs.size = none := by
    cases q : h1.get? h1.objs.size with
    | none => rfl
    | some o => exact absurd (Heap.lt_size q) (Nat.lt_irrefl _)
  have er2 : PySem.W.EachIs (fun v b => ∃ as, Reads (h1.push { cls := .type "list", data := .seq its.toArray }) v (enc b) as ∧ h1.objs.size ∉ as) its bs :=
    (PySem.W.each_mem er).mono fun v b ⟨⟨as, r⟩, hb⟩ => by
      have r1 := PyProof.Rows.Reads.keeps k1 r
      exact ⟨as, PyProof.Rows.Reads.keeps k2 r1, reads_off off _ _ _ (hal _ (List.mem_map.mpr ⟨b, hb, rfl⟩) _ (List.mem_map.mpr ⟨b, hb, rfl⟩)) r1⟩
  refine wpAny_bind (wpAny_holding (PySem.W.list_sort_data (s := { s with heap := h1.push { cls := .type "list", data := .seq its.toArray } }) (a := h1.objs.size) hS e er2 hal hk hl (fun b hb => ?_) fun out _ ho2 => ?_))
  · have := hu b hb
    show A.units + _ + 1 + (enc b).depth < cLine
    omega
  · obtain ⟨ep, q⟩ := PyProof.Rows.sortedHeap_at (out := List.toArray out) hS
    refine wpAny_pure ⟨_, rfl, h h1 _ out ep k1 (fun b o q' => ?_) q ho2⟩
    have hlt := Heap.lt_size q'
    rw [PyProof.Rows.sortedHeap_old (Nat.ne_of_lt hlt) (by rw [Heap.size_push]; exact Nat.lt_succ_of_lt hlt)]
    exact k2 b o q'
end
/-- sorted(xs), of a list or a tuple -/
def rSortD (K : PySem.W.Frag) (mg : Str → Option Value) : List V → Hp → VK → Prop := fun vs H Q => ∃ (S : Hp) (a : Addr) (xs : List V) (ds : List D), vs = [V.ref a] ∧ (SqL K H a xs ∨ SqT K H a xs) ∧ Same S H ∧ RepL K mg S xs ds ∧ SrtOk ds ∧
  ∀ (p : Addr) (ys : List V), RepL K mg S ys (ds.mergeSort leD) → H p = none → Q (.ref p) (upd H p (.lst ys))
theorem each_zip {K : PySem.W.Frag} {mg : Str → Option Value} {S : Hp} : ∀ {xs : List V} {ds : List D} {us : List Value}, RepL K mg S xs ds → Vals xs us → PySem.W.EachIs (fun v (b : V × D) => RelV b.1 v) us (xs.zip ds)
  | [], _, _, _, .nil => .nil
  | x :: xs, [], _, h, _ => by have := h.len; simp at this
  | x :: xs, d :: ds, _, h, .cons r t => .cons r (each_zip h.tail t)
theorem each_out : ∀ {us : List Value} {zs : List (V × D)}, PySem.W.EachIs (fun v (b : V × D) => RelV b.1 v) us zs → Vals (zs.map (·.1)) us
  | _, _, .nil => .nil
  | _, _, .cons h t => .cons h (each_out t)
theorem zip_snd {α β : Type} : ∀ {xs : List α} {ds : List β}, xs.length = ds.length → (xs.zip ds).map (·.2) = ds
  | [], [], _ => rfl
  | [], _ :: _, h => by simp at h
  | _ :: _, [], h => by simp at h
  | x :: xs, d :: ds, h => by rw [List.zip_cons_cons, List.map_cons, zip_snd (by simpa using h)]
section
variable {X : Cx} {E : WX} {m : Mds} {e : Expr} {fs : Env → Res (List D)} {p pos : Pos}
theorem cr_sortD (hu : X.A.units + 40 < cLine) : CallR X (.builtin "sorted") (rSortD X.K X.mg) := by
  intro pins s σ H vs us Q I r h
  obtain ⟨S, a, xs, ds, rfl, hq, hS, rv, ⟨⟨bs, eb⟩, hal, hso, hdp⟩, q⟩ := h
  obtain ⟨u, rfl, ru⟩ := Vals.one r
  cases ru
  have main : ∀ (T : String) (o : Obj) (its : List Value) (n : Nat), (T = "list" ∨ T = "tuple") → s.heap.get? a = some o → o.cls = .type T → o.data = .seq its.toArray n → xs.length ≤ sizeLine → Vals xs its → wpAny (model X.prog X.w) X.A (call (.builtin "sorted") [.ref a]) (EP X pins σ Q) X.xe s := by
    intro T o its n hT ho hc hd hz vv
    obtain ⟨eqb, hpy⟩ := pys_some eb
    have zs := zip_snd rv.len
    have e1 := each_zip rv vv
    have e2 : PySem.W.EachIs (fun v (b : V × D) => ∃ as, Reads s.heap v b.2.en as) its (xs.zip ds) := (PySem.W.each_mem e1).mono fun v b ⟨hr, hb⟩ => by
      obtain ⟨i, hi⟩ := List.mem_iff_getElem?.mp hb
      rw [List.getElem?_zip_eq_some] at hi
      exact Dp.reads I b.2.en b.1 v (dp_mono hS (dp_of b.2 b.1 _ (rv.at_ i b.1 b.2 hi.1 hi.2) (hpy _ (List.mem_of_getElem? hi.2)))) hr
    have em : (xs.zip ds).map (fun b => b.2.en) = ds.map D.en := by
      rw [show (fun b : V × D => b.2.en) = D.en ∘ (·.2) from rfl, ← List.map_map, zs]
    refine sorted_seq (enc := fun b : V × D => b.2.en) hT ho hc hd (by rw [← vv.length]; exact hz) e1 e2 (by rw [em]; exact hal) (by rw [em]; exact hso) (fun b hb => ?_) fun h1 h2 out ep k1 k2 hp ho2 => ?_
    · have := hdp b.2 (by rw [← zs]; exact List.mem_map.mpr ⟨b, hb, rfl⟩)
      omega
    · have I1 : Inv X pins σ H { s with heap := h1 } := I.kept (t' := s.toks) k1
      generalize hzs : (xs.zip ds).mergeSort (PySem.W.dataLe false fun b => b.2.en) = zs2 at ho2
      have pm : zs2.Perm (xs.zip ds) := by rw [← hzs]; exact List.mergeSort_perm _ _
      have es : zs2.map (·.2) = ds.mergeSort leD := by
        have q1 := List.map_mergeSort (r := PySem.W.dataLe false fun b : V × D => b.2.en) (s := leD) (f := fun b : V × D => b.2) (l := xs.zip ds) (fun a _ b _ => rfl)
        rw [← hzs, q1, zs]
      have rz : RepL X.K X.mg S (zs2.map (·.1)) (ds.mergeSort leD) := by
        rw [← es]
        refine ⟨by rw [List.length_map, List.length_map], fun i v d a b => ?_⟩
        rw [List.getElem?_map] at a b
        cases ez : zs2[i]? with
        | none => rw [ez] at a; cases a
        | some c =>
          rw [ez] at a b
          cases a; cases b
          obtain ⟨j, hj⟩ := List.mem_iff_getElem?.mp (pm.mem_iff.mp (List.mem_of_getElem? ez))
          rw [List.getElem?_zip_eq_some] at hj
          exact rv.at_ j _ _ hj.1 hj.2
      have hl : (zs2.map (·.1)).length ≤ sizeLine := by
        rw [rz.len, List.length_mergeSort, ← rv.len]
        exact hz
      exact ⟨.ref _, upd H h1.objs.size (.lst (zs2.map (·.1))), I1.laid (t' := s.toks) k2 (Nat.le_refl _) ⟨hl, out, ep, each_out ho2, hp⟩, rfl, q _ _ rz (I1.hok.fresh (Nat.le_refl _))⟩
  rcases hq with hq | hq
  · obtain ⟨its, vv, ⟨o, n, ho, hc, _, hd⟩, hz⟩ := I.list hq
    exact main "list" o its n (.inl rfl) ho hc hd hz vv
  · obtain ⟨its, vv, ⟨o, ho, hc, n, hd⟩, hz⟩ := I.tuple hq
    exact main "tuple" o its n (.inr rfl) ho hc hd hz vv
theorem je_sorted (hr : RmU X.A) (hm : X.mg "sorted" = none) (ha : JA X E m [e] fs) (hg : Gl X "sorted" := by rfl) (he : starEach [e] X.env = (false, eval e X.env) :: starEach [] X.env := by rfl) : JE X E m .ow (.Call (.Name "sorted" p) [e] [] pos) (fOn (on1 dSorted) fs) :=
  je_callB (cr_sortD (by unfold RmU at hr; omega)) (calld1 fun E S H x d Q hs rx hp => by
    cases d with
    | lst xs =>
      obtain ⟨hz, hp⟩ := Post.of_if hp
      obtain ⟨a, vs, rfl, ha, rv⟩ := rx.of_lst
      exact ⟨S, a, vs, xs, rfl, .inl (.inl (.inl (hs _ _ ha))), hs, rv, stuck_iff.mp hz, fun p ys ry hl => Post.list (.inr rfl) hp hs ry hl⟩
    | frl xs =>
      obtain ⟨hz, hp⟩ := Post.of_if hp
      obtain ⟨a, vs, rfl, ha, rv⟩ := rx.of_frl
      exact ⟨S, a, vs, xs, rfl, .inl (same_l hs ha), hs, rv, stuck_iff.mp hz, fun p ys ry hl => Post.list (.inr rfl) hp hs ry hl⟩
    | tup xs =>
      obtain ⟨hz, hp⟩ := Post.of_if hp
      obtain ⟨a, vs, rfl, ha, rv⟩ := rx.of_tup
      exact ⟨S, a, vs, xs, rfl, .inr (same_t hs ha), hs, rv, stuck_iff.mp hz, fun p ys ry hl => Post.list (.inr rfl) hp hs ry hl⟩
    | _ => exact hp.elim) hm ha hg (by decide +kernel) (by decide) (by decide) he (by rfl)
end
end Da
namespace Da
open PySem PySem.Spec L2
theorem enum_new {v : Value} {o : Obj} {G : Heap → Prop} (B : Begins v o G) :
    Meets (Builtin.«enumerate.__new__» ⟨[.type "enumerate", v], []⟩) (fun _ R s => G s.heap ∧
      R (.ok (.ret (.ref (s.heap.push o).objs.size))) { s with heap := (s.heap.push o).push { cls := .type "enumerate", data := .fields #[.none, .bool false, .ref s.heap.objs.size, rawInt 0, .none, .none] } }) :=
  .of_wp fun prog w A R s hh => by
    obtain ⟨hp, g, d, tk, os⟩ := s
    obtain ⟨hg, hh⟩ := hh
    have hsb := sub_enumerate
    have walk : ∀ {A' : Around} {Er : Value → Shared → Prop} {Qv : Value → Shared → Prop}, Qv (.ref hp.objs.size) ⟨hp.push o, g, d, tk, os⟩ → wpAny (model prog w) A' (pyIter v) Qv Er ⟨hp, g, d, tk, os⟩ := fun q => B.iter prog w _ _ ⟨hp, g, d, tk, os⟩ _ hg q
    wp_walk using walk
    refine wpAny_stack_any fun stk => wpAny_pure ?_
    split
    · rename_i c _ _ _ _ _
      cases (c == Value.type "enumerate") <;> (wp_walk using walk; exact ⟨_, rfl, hh⟩)
    · wp_walk using walk; exact ⟨_, rfl, hh⟩
theorem call_enumT {prog : Program} {w : World} {A : Around} {Er : Value → Shared → Prop} {s : Shared} {t : Addr} {items : Array Value} {Q : Value → Shared → Prop} (ht : s.heap.IsTuple t items)
    (h : ∀ h', IsEnum h' (s.heap.objs.size + 1) s.heap.objs.size 0 .none → h'.IsTupleIter s.heap.objs.size t 0 → (∀ b o, s.heap.get? b = some o → h'.get? b = some o) → Q (.ref (s.heap.objs.size + 1)) { s with heap := h' }) :
    wpAny (model prog w) A (call (.type "enumerate") [.ref t]) Q Er s := by
  refine callType_new F.called_enumerate (by decide) (F.typeCall_enumerate_1 _) (F.newCall_enumerate_1 _) (fun obj => F.args_object_init_2 obj _) F.entry_enumerate_new (enum_new (begins_tuple t items)) ⟨ht, ?_⟩
  have hz : (s.heap.push { cls := .type "tuple_iterator", data := .fields #[.ref t, .int 0 0] }).objs.size = s.heap.objs.size + 1 := Heap.size_push ..
  show _ ∧ _
  rw [hz]
  have he : IsEnum ((s.heap.push { cls := .type "tuple_iterator", data := .fields #[.ref t, .int 0 0] }).push { cls := .type "enumerate", data := .fields #[.none, .bool false, .ref s.heap.objs.size, rawInt 0, .none, .none] }) (s.heap.objs.size + 1) s.heap.objs.size 0 .none := by
    have q := Heap.get?_push_size (s.heap.push { cls := .type "tuple_iterator", data := .fields #[.ref t, .int 0 0] }) (o := { cls := .type "enumerate", data := .fields #[.none, .bool false, .ref s.heap.objs.size, rawInt 0, .none, .none] }) rfl
    rw [hz] at q
    exact q
  exact ⟨⟨_, he, rfl⟩, h _ he ⟨_, Heap.get?_push_of_some _ (Heap.get?_push_size _ rfl), rfl, rfl⟩ fun b o x => Heap.get?_push_of_some _ (Heap.get?_push_of_some _ x)⟩
/-- the tuple at a, each item in a new pair -/
def IteT (K : PySem.W.Frag) (a : Addr) : It :=
  ⟨fun i H => ∃ (xs : List V) (x : V), SqT K H a xs ∧ xs[i]? = some x, fun i H v H' => ∃ T x, v = .ref T ∧ H T = none ∧ H' = upd H T (.tup [.int (i : Nat), x]) ∧ ∀ xs, SqT K H a xs → xs[i]? = some x, fun i H => ∃ xs : List V, SqT K H a xs ∧ xs.length ≤ i⟩
theorem turn_enumT {P : Program} {w : World} {K : PySem.W.Frag} {elts : List Expr} {kk : Nat} {tpos : Pos} (a e it : Addr) :
    L2.Turn P w K (.Tuple elts kk tpos) (IteT K a) [e, it] e (fun i h => (∃ old, IsEnum h e it ((i : Nat) : Int) old) ∧ h.IsTupleIter it a i ∧ e ≠ it) where
  mem := by simp
  obj := fun i h st b hb => by
    obtain ⟨⟨old, he⟩, ⟨o, ho, hc, hd⟩, _⟩ := st
    rcases (show b = e ∨ b = it by simpa using hb) with z | z
    · rw [z]; exact ⟨_, he, fun v q => nomatch q⟩
    · rw [z]; exact ⟨o, ho, fun v q => by rw [hd] at q; cases q⟩
  keep := fun i h h' st k => let ⟨⟨old, he⟩, hi, hne⟩ := st; ⟨⟨old, k e (by simp) _ he⟩, hi.at fun o q => k it (by simp) o q, hne⟩
  item := by
    intro X hP hw hK hc i pins s σ H Er I hf st hg
    subst hP hw hK
    obtain ⟨⟨old, he⟩, hit, hne⟩ := st
    obtain ⟨xs, x, hq, hx⟩ := hg
    obtain ⟨its, rv, p, hz⟩ := I.tuple hq
    obtain ⟨u, hu, ru⟩ := rv.get hx
    have hel : e < s.heap.objs.size := Heap.lt_size he
    have hil : it < s.heap.objs.size := by obtain ⟨_, q, _⟩ := hit; exact Heap.lt_size q
    have ht : s.heap.IsTuple a its.toArray := p
    have hea : e ≠ a := fun z => by
      obtain ⟨o, ho, hco, _⟩ := ht
      rw [← z, he] at ho
      cases ho
      exact absurd (show Value.type "enumerate" = Value.type "tuple" from hco) (by decide)
    have hia : a ≠ it := fun z => by
      obtain ⟨o, ho, hco, _⟩ := ht
      obtain ⟨o2, ho2, hc2, _⟩ := hit
      rw [z, ho2] at ho
      cases ho
      rw [hc2] at hco
      exact absurd hco (by decide)
    have hlt : i < its.toArray.size := by
      rw [List.size_toArray]
      exact (List.getElem?_eq_some_iff.mp hu).1
    refine wpAny_pyNext_enum_itemD (Draws.tuple (A := X.A.in1) (I.ok.hd hc) it a hia its.toArray) he ⟨hit, ht⟩ hlt hne (by simp [hne, hea]) fun y h' tk hy ho hst hT hsz hk => ?_
    have hyu : y = u := by
      have q : its[i]? = some y := by simpa using hy
      rw [hu] at q
      injection q with q
      exact q.symm
    subst hyu
    refine ⟨_, rfl, wpAny_letOwnedTupleGo_enum (s := { s with heap := h', toks := tk + 1 }) ho fun h'' he' sb => ?_⟩
    have hT2 : h''.get? s.heap.objs.size = some { cls := .type "tuple", data := .seq #[.int i tk, y] } := (sb.2 _ (Nat.ne_of_gt hel)).trans hT
    have new : ObjOk X.prog X.w (upd H s.heap.objs.size (.tup [.int (i : Nat), x])) h'' s.heap.objs.size (.tup [.int (i : Nat), x]) :=
      ⟨by show 2 ≤ sizeLine; decide, [.int i tk, y], .cons ⟨_, rfl⟩ (.cons ru .nil), ⟨_, hT2, rfl, _, rfl⟩⟩
    have I1 : Inv X pins σ (upd H s.heap.objs.size (.tup [.int (i : Nat), x])) { s with heap := h'', toks := tk + 1 } :=
      I.turnedNew (ch := [e, it]) (fun b ob hb q => (sb.2 b (fun z => hb (by simp [z]))).trans (hk b ob (fun z => hb (by simp [z])) (fun z => hb (by simp [z])) q)) hf (Nat.le_refl _) new
    refine ⟨.ref s.heap.objs.size, _, I1, rfl, ⟨_, x, rfl, I.hok.fresh (Nat.le_refl _), rfl, fun ys hy => by rw [I.tuple_inj hy hq]; exact hx⟩, ⟨⟨y, ?_⟩, hst.1.at fun o q => (sb.2 it (Ne.symm hne)).trans q, hne⟩, fun b hb => ?_⟩
    · rw [show ((i + 1 : Nat) : Int) = (i : Int) + 1 by omega]
      exact he'
    · have hlt2 : b < s.heap.objs.size := by
        rcases (show b = e ∨ b = it by simpa using hb) with z | z
        · rw [z]; exact hel
        · rw [z]; exact hil
      rw [upd_ne (Nat.ne_of_lt hlt2)]
      exact (hf b hb).1
  done := by
    intro X hP hw hK hc i pins s σ H Er I hf st hg
    subst hP hw hK
    obtain ⟨⟨old, he⟩, hit, hne⟩ := st
    obtain ⟨xs, hq, hx⟩ := hg
    obtain ⟨its, rv, p, hz⟩ := I.tuple hq
    have hl := rv.length
    have ht : s.heap.IsTuple a its.toArray := p
    obtain ⟨f0, f1, f2, f3, f4, f5⟩ := hf it (by simp)
    have hT : s.TypeIs (.ref e) "enumerate" := ⟨_, he, rfl⟩
    unfold pyNext
    refine wpAny_bind (wpAny_attempt (wpAny_callSpecial?_slot (name := Str.ofString "__next__") hT F.slot_enumerate_next (wpAny_call_entry F.slot_enumerate_next hT F.entry_enumerate_next ?_ (F.args_enumerate_next_1 _))))
    show wpAny _ _ (field (.ref e) 2 >>= _) _ _ _
    refine wpAny_bind (wpAny_field he rfl (x := .ref it) rfl (wpAny_bind (wpAny_nextOf_tuple_end (I.ok.hd hc) hit ht (by simp; omega) fun h' x hx1 hx2 => ?_)))
    obtain ⟨o, ho, hco⟩ := hx2
    exact wpAny_bind (wpAny_isInstance (T := "StopIteration") (b := true) ⟨o, ho, hco⟩ isSubtype_stop (wpAny_pure ⟨rfl, I.turned (t' := s.toks) (fun b o hb q => hx1 b o hb q) f0 f1 f3 f4 f5⟩))
  self := fun A i s Q Er st h => let ⟨⟨_, he⟩, _⟩ := st; wpAny_pyIter_enum he h
def iEnumA (K : PySem.W.Frag) (ta : TA) : TI := fun σ H R => ta σ H fun vs H1 => ∃ a xs, vs = [.ref a] ∧ (SqL K H1 a xs ∧ R (Ite K a) H1 ∨ SqT K H1 a xs ∧ R (IteT K a) H1)
theorem pi_enumA {X : Cx} {e : Expr} {ta : TA} {p pos tpos : Pos} {elts : List Expr} {kk : Nat} (hg : Gl X "enumerate") (hm : X.mg "enumerate" = none) (ha : PA X [e] ta) (hs : starEach [e] X.env = [(false, eval e X.env)] := by rfl) :
    PI X (.Tuple elts kk tpos) (.Call (.Name "enumerate" p) [e] [] pos) (iEnumA X.K ta) := by
  refine ⟨fun pins s σ H R I h => PyProof.Rows.Call_ (ld_blt I hg hm PyProof.Rows.boot_enumerate (PyProof.Rows.callWith_type1 (thn (ha.run pos pins s σ H _ I h) fun us s1 ⟨vs, H1, I1, r1, q1⟩ => ?_) hs rfl))⟩
  obtain ⟨a, xs, rfl, q1⟩ := q1
  obtain ⟨u, rfl, ru⟩ := Vals.one r1
  cases ru
  have fresh : ∀ b, b ∈ [s1.heap.objs.size + 1, s1.heap.objs.size] → FpOk X pins H1 b := fun b hb => by
    have hle : s1.heap.objs.size ≤ b := by
      rcases (show b = s1.heap.objs.size + 1 ∨ b = s1.heap.objs.size by simpa using hb) with z | z
      · rw [z]; exact Nat.le_add_right _ _
      · rw [z]; exact Nat.le_refl _
    exact I1.fpOk hle (I1.hok.fresh hle)
  rcases q1 with ⟨hq, q⟩ | ⟨hq, q⟩
  · obtain ⟨its, rv, pl, _⟩ := I1.list hq
    refine call_enumerate_list pl.isList fun h' he hit _ hk => wpAny_pyIter_enum he ?_
    exact ⟨_, _, _, _, H1, rfl, I1.kept (t' := s1.toks) hk, turn_enum a (s1.heap.objs.size + 1) s1.heap.objs.size, ⟨⟨.none, he⟩, hit, Nat.succ_ne_self _⟩, fresh, q⟩
  · obtain ⟨its, rv, pl, _⟩ := I1.tuple hq
    refine call_enumT (show s1.heap.IsTuple a its.toArray from pl) fun h' he hit hk => wpAny_pyIter_enum he ?_
    exact ⟨_, _, _, _, H1, rfl, I1.kept (t' := s1.toks) hk, turn_enumT a (s1.heap.objs.size + 1) s1.heap.objs.size, ⟨⟨.none, he⟩, hit, Nat.succ_ne_self _⟩, fresh, q⟩
def tGsD (K : PySem.W.Frag) (mg : Str → Option Value) (m : Mds) (ts : List Nat) (g : List D → Env → Res Env) : TGs := fun vs σ H Q => ∃ S0 H0 S F ρ ds, StF K mg m S0 H0 S F σ ρ H ∧ RepL K mg S vs ds ∧ (match g ds ρ with
  | .ok ρ1 => ∀ σ1 S1 F1 H1, StF K mg m S0 H0 S1 F1 σ1 ρ1 H1 → Step S H S1 H1 → (σ1.length = σ.length ∧ ∀ j, j ∉ ts → σ1[j]? = σ[j]?) → Q σ1 H1
  | _ => False)
structure JGs (X : Cx) (m : Mds) (ts : List Nat) (es : List Expr) (g : List D → Env → Res Env) : Prop where
  pgs : PGs X es (tGsD X.K X.mg m ts g)
def gs0 : List D → Env → Res Env := fun ds ρ => match ds with
  | [] => .ok ρ
  | _ => .er
def gsC (g : D → Env → Res Env) (r : List D → Env → Res Env) : List D → Env → Res Env := fun ds ρ => match ds with
  | d :: ds => (match g d ρ with
    | .ok ρ1 => r ds ρ1
    | _ => .er)
  | [] => .er
def gT (r : List D → Env → Res Env) : D → Env → Res Env := fun d ρ => match d with
  | .tup ds => r ds ρ
  | _ => .er
section
variable {X : Cx} {E : WX} {m : Mds} {ts us : List Nat} {tg e : Expr} {es elts : List Expr} {g : D → Env → Res Env} {r : List D → Env → Res Env} {fs : Env → Res (List D)} {p pos tpos : Pos} {kk : Nat}
theorem jgs_nil : JGs X m [] [] gs0 := by
  refine ⟨⟨fun pins s σ H vs uv Q I rv h => pgs_nil.run pins s σ H vs uv Q I rv ?_⟩⟩
  obtain ⟨S0, H0, S, F, ρ, ds, st, rd, q⟩ := h
  match ds, rd, q with
  | [], rd, q => exact ⟨rd.nil_iff.mpr rfl, q σ S F H st (Step.refl st.1.sub) ⟨rfl, fun _ _ => rfl⟩⟩
  | _ :: _, _, q => exact q.elim
theorem jgs_cons (h1 : JG X m ts e g) (h2 : JGs X m us es r) (hs : (assignEach (e :: es) X.env).map (·.2) = assign e X.env :: (assignEach es X.env).map (·.2) := by rfl) : JGs X m (ts ++ us) (e :: es) (gsC g r) := by
  refine ⟨⟨fun pins s σ H vs uv Q I rv h => (pgs_cons h1.pg h2.pgs hs).run pins s σ H vs uv Q I rv ?_⟩⟩
  obtain ⟨S0, H0, S, F, ρ, ds, st, rd, q⟩ := h
  match ds, rd, q with
  | [], _, q => exact q.elim
  | d :: ds, rd, q =>
    match vs, rd with
    | [], rd => have := rd.len; simp at this
    | v :: vs, rd =>
      refine ⟨v, vs, rfl, S0, H0, S, F, ρ, d, st, rd.head, ?_⟩
      unfold gsC at q
      simp only at q
      cases eg : g d ρ with
      | ok ρ1 =>
        rw [eg] at q
        simp only at q
        refine fun σ1 S1 F1 H1 st1 s1 fr1 => ⟨S0, H0, S1, F1, ρ1, ds, st1, rd.tail.mono s1.ss, ?_⟩
        cases er : r ds ρ1 with
        | ok ρ2 =>
          rw [er] at q
          refine fun σ2 S2 F2 H2 st2 s2 fr2 => q σ2 S2 F2 H2 st2 (s1.trans s2) ⟨fr2.1.trans fr1.1, fun j hj => ?_⟩
          rw [List.mem_append, not_or] at hj
          exact (fr2.2 j hj.2).trans (fr1.2 j hj.1)
        | ex c fs => rw [er] at q; exact q.elim
        | er => rw [er] at q; exact q.elim
      | ex c fs => rw [eg] at q; exact q.elim
      | er => rw [eg] at q; exact q.elim
/-- (a, b, ..) takes a tuple of that length -/
theorem jg_tup (h : JGs X m ts es r) (hr : ∀ ds ρ ρ1, r ds ρ = .ok ρ1 → ds.length = es.length) (hc : X.calm = true := by rfl) (hn : (assignEach es X.env).length = es.length := by rfl) (hst : (assignEach es X.env).findIdx? (·.1) = none := by rfl) : JG X m ts (.Tuple es kk tpos) (gT r) := by
  refine ⟨⟨fun pins s σ H v u Q I rv hq => (pg_tup hc h.pgs hn hst).run pins s σ H v u Q I rv ?_⟩⟩
  obtain ⟨S0, H0, S, F, ρ, d, st, rd, q⟩ := hq
  cases d with
  | tup ds =>
    obtain ⟨a, vs, rfl, ha, rs⟩ := rd.of_tup
    have q : (match r ds ρ with
      | .ok ρ1 => ∀ σ1 S1 F1 H1, StF X.K X.mg m S0 H0 S1 F1 σ1 ρ1 H1 → Step S H S1 H1 → (σ1.length = σ.length ∧ ∀ j, j ∉ ts → σ1[j]? = σ[j]?) → Q σ1 H1
      | _ => False) := q
    cases er : r ds ρ with
    | ok ρ1 => exact ⟨a, vs, rfl, same_t st.1.sub ha, by rw [rs.len]; exact hr ds ρ ρ1 er, S0, H0, S, F, ρ, ds, st, rs, q⟩
    | ex c fs => rw [er] at q; exact q.elim
    | er => rw [er] at q; exact q.elim
  | _ => exact q.elim
theorem gs0_len (ds : List D) (ρ ρ1 : Env) (h : gs0 ds ρ = .ok ρ1) : ds.length = 0 := by
  cases ds with
  | nil => rfl
  | cons d ds => cases h
theorem gsC_len {n : Nat} {g : D → Env → Res Env} {r : List D → Env → Res Env} (hr : ∀ ds ρ ρ1, r ds ρ = .ok ρ1 → ds.length = n) (ds : List D) (ρ ρ1 : Env) (h : gsC g r ds ρ = .ok ρ1) : ds.length = n + 1 := by
  cases ds with
  | nil => cases h
  | cons d ds =>
    unfold gsC at h
    simp only at h
    split at h
    · rw [List.length_cons, hr ds _ _ h]
    · cases h
theorem jg_tup2 {a b : Expr} {ga gb : D → Env → Res Env} (h1 : JG X m ts a ga) (h2 : JG X m us b gb) (hc : X.calm = true := by rfl) (ha : (assignEach [a, b] X.env).map (·.2) = assign a X.env :: (assignEach [b] X.env).map (·.2) := by rfl) (hb : (assignEach [b] X.env).map (·.2) = assign b X.env :: (assignEach [] X.env).map (·.2) := by rfl)
    (hn : (assignEach [a, b] X.env).length = 2 := by rfl) (hst : (assignEach [a, b] X.env).findIdx? (·.1) = none := by rfl) : JG X m (ts ++ (us ++ [])) (.Tuple [a, b] kk tpos) (gT (gsC ga (gsC gb gs0))) :=
  jg_tup (jgs_cons h1 (jgs_cons h2 jgs_nil hb) ha) (gsC_len (gsC_len gs0_len)) hc hn hst
def enumD (i : Nat) : List D → List D
  | [] => []
  | x :: xs => .tup [.int (i : Nat), x] :: enumD (i + 1) xs
theorem enumD_length : ∀ {xs : List D} {i : Nat}, (enumD i xs).length = xs.length
  | [], _ => rfl
  | x :: xs, i => by unfold enumD; rw [List.length_cons, List.length_cons, enumD_length]
theorem enumD_at : ∀ {xs : List D} {i j : Nat}, (enumD i xs)[j]? = (xs[j]?).map fun x => .tup [.int ((i + j : Nat) : Int), x]
  | [], _, _ => by simp [enumD]
  | x :: xs, i, 0 => by simp [enumD]
  | x :: xs, i, j + 1 => by
    unfold enumD
    rw [List.getElem?_cons_succ, List.getElem?_cons_succ, enumD_at, show i + 1 + j = i + (j + 1) by omega]
def dEnum : List D → Res (List D)
  | [d] => (asL d).bind fun xs => .ok (enumD 0 xs)
  | _ => .er
def fEnum (fs : Env → Res (List D)) : Env → Res (List D) := fun ρ => (fs ρ).bind dEnum
theorem walk_e {K : PySem.W.Frag} {mg : Str → Option Value} {S : Hp} {a : Addr} {vs : List V} {ds : List D} (r : RepL K mg S vs ds) (h : SqL K S a vs) : WalkD K mg (Ite K a) S (enumD 0 ds) where
  go := fun i d S1 H1 e s1 s2 => by
    rw [enumD_at, Nat.zero_add] at e
    cases ed : ds[i]? with
    | none => rw [ed] at e; cases e
    | some d0 =>
      rw [ed] at e
      cases e
      obtain ⟨v, ev, rv⟩ := r.get ed
      refine ⟨⟨vs, v, same_l s2 (same_l s1 h), ev⟩, fun x H2 ⟨T, y, e1, hT, e2, hy⟩ => ?_⟩
      subst e1 e2
      have := hy vs (same_l s2 (same_l s1 h))
      rw [ev] at this
      cases this
      have st := Step.laid (o := HO.tup [.int (i : Nat), v]) s2 hT
      exact ⟨_, st, Rep.tupL upd_same (.cons (.int _) (.cons ((rv.mono s1).mono st.ss) .nil))⟩
  stop := fun S1 H1 s1 s2 => ⟨vs, same_l s2 (same_l s1 h), by rw [enumD_length]; exact Nat.le_of_eq r.len⟩
theorem walk_eT {K : PySem.W.Frag} {mg : Str → Option Value} {S : Hp} {a : Addr} {vs : List V} {ds : List D} (r : RepL K mg S vs ds) (h : SqT K S a vs) : WalkD K mg (IteT K a) S (enumD 0 ds) where
  go := fun i d S1 H1 e s1 s2 => by
    rw [enumD_at, Nat.zero_add] at e
    cases ed : ds[i]? with
    | none => rw [ed] at e; cases e
    | some d0 =>
      rw [ed] at e
      cases e
      obtain ⟨v, ev, rv⟩ := r.get ed
      refine ⟨⟨vs, v, same_t s2 (same_t s1 h), ev⟩, fun x H2 ⟨T, y, e1, hT, e2, hy⟩ => ?_⟩
      subst e1 e2
      have := hy vs (same_t s2 (same_t s1 h))
      rw [ev] at this
      cases this
      have st := Step.laid (o := HO.tup [.int (i : Nat), v]) s2 hT
      exact ⟨_, st, Rep.tupL upd_same (.cons (.int _) (.cons ((rv.mono s1).mono st.ss) .nil))⟩
  stop := fun S1 H1 s1 s2 => ⟨vs, same_t s2 (same_t s1 h), by rw [enumD_length]; exact Nat.le_of_eq r.len⟩
theorem dEnum_ok {ds xs : List D} (h : dEnum ds = .ok xs) : ∃ d ys, ds = [d] ∧ asL d = .ok ys ∧ xs = enumD 0 ys := by
  unfold dEnum at h
  split at h
  · rename_i d
    cases e : asL d with
    | ok ys => rw [e] at h; cases h; exact ⟨d, ys, rfl, e, rfl⟩
    | ex c fs => rw [e] at h; cases h
    | er => rw [e] at h; cases h
  · cases h
theorem asL_ex {d : D} {c : Str} {fs : List (Str × D)} : asL d ≠ .ex c fs := by
  cases d <;> exact fun z => nomatch z
theorem dEnum_ex {ds : List D} {c : Str} {fs : List (Str × D)} : dEnum ds ≠ .ex c fs := by
  unfold dEnum
  split
  · rename_i d
    cases e : asL d with
    | ok ys => exact fun z => nomatch z
    | ex c fs => exact absurd e asL_ex
    | er => exact fun z => nomatch z
  · exact fun z => nomatch z
theorem ji_enum (ha : JA X E m [e] fs) (hm : X.mg "enumerate" = none) (hg : Gl X "enumerate" := by rfl) (hs : starEach [e] X.env = [(false, eval e X.env)] := by rfl) : JI X E m (.Tuple elts kk tpos) (.Call (.Name "enumerate" p) [e] [] pos) (fEnum fs) := by
  refine ⟨⟨fun pins s σ H R I h => (pi_enumA hg hm ha.pa hs).run pins s σ H R I ?_⟩⟩
  obtain ⟨S, ρ, hm, hp⟩ := h
  refine ⟨S, ρ, hm, (PostW.bind hp).imp fun ds S1 H1 s1 k vs rv => ?_⟩
  obtain ⟨xs, e, k⟩ := PostW.okOf k fun _ _ => dEnum_ex
  obtain ⟨d, ys, rfl, ey, rfl⟩ := dEnum_ok e
  obtain ⟨v, rfl, rd⟩ := repl1 rv
  cases d with
  | lst xs =>
    cases ey
    obtain ⟨a, vs, rfl, ha, rv⟩ := rd.of_lst
    exact ⟨a, vs, rfl, .inl ⟨.inl (.inl (s1.sub _ _ ha)), k S1 H1 (Step.refl s1.sub) _ (walk_e rv (.inl (.inl ha)))⟩⟩
  | frl xs =>
    cases ey
    obtain ⟨a, vs, rfl, ha, rv⟩ := rd.of_frl
    exact ⟨a, vs, rfl, .inl ⟨same_l s1.sub ha, k S1 H1 (Step.refl s1.sub) _ (walk_e rv ha)⟩⟩
  | tup xs =>
    cases ey
    obtain ⟨a, vs, rfl, ha, rv⟩ := rd.of_tup
    exact ⟨a, vs, rfl, .inr ⟨same_t s1.sub ha, k S1 H1 (Step.refl s1.sub) _ (walk_eT rv ha)⟩⟩
  | _ => cases ey
end
end Da
namespace Da
open PySem PySem.Spec L2
def tX (K : PySem.W.Frag) (mg : Str → Option Value) (m : Mds) (f : Env → Res (D × Env)) : TE := fun σ H Q => ∃ S0 H0 S F ρ, StF K mg m S0 H0 S F σ ρ H ∧ (match f ρ with
  | .ok (d, ρ1) => ∀ v S1 F1 H1, Same S S1 → StF K mg m S0 H0 S1 F1 σ ρ1 H1 → Rep K mg S1 v d → Q v H1
  | _ => False)
structure JX (X : Cx) (m : Mds) (e : Expr) (f : Env → Res (D × Env)) : Prop where
  pe : PE X e (tX X.K X.mg m f)
def fPop (i : Nat) (f : Env → Res D) : Env → Res (D × Env) := fun ρ => match ρ[i]? with
  | some (some (.lst xs)) => (match f ρ with
    | .ok (.int z) => (match ixN xs.length z with
      | some k => (match xs[k]? with
        | some y => if szOk xs.length = true then .ok (y, ρ.set i (some (.lst (xs.eraseIdx k)))) else .er
        | none => .er)
      | none => .er)
    | _ => .er)
  | _ => .er
def fPop0 (i : Nat) : Env → Res (D × Env) := fun ρ => match ρ[i]? with
  | some (some (.lst xs)) => (match xs[xs.length - 1]? with
    | some y => .ok (y, ρ.set i (some (.lst xs.dropLast)))
    | none => .er)
  | _ => .er
def fSetX (i : Nat) (f : Env → Res (D × Env)) : FS := fun ρ => match f ρ with
  | .ok (d, ρ1) => .ok (.nx (ρ1.set i (some d)))
  | _ => .er
def fAppX (i : Nat) (f : Env → Res (D × Env)) : FS := fun ρ => match ρ[i]? with
  | some (some (.lst _)) => (match f ρ with
    | .ok (d, ρ1) => (match ρ1[i]? with
      | some (some (.lst xs)) => if szOk (xs.length + 1) = true then .ok (.nx (ρ1.set i (some (.lst (xs ++ [d]))))) else .er
      | _ => .er)
    | _ => .er)
  | _ => .er
theorem Same.ref_eq {a b : Addr} {σ : L2.St} {i : Nat} (h : σ[i]? = some (some (V.ref a))) (k : σ[i]? = some (some (V.ref b))) : b = a := by
  rw [h] at k
  injection k with z; injection z with z; injection z with z
  exact z.symm
theorem ix_fits {n : Nat} {z : Int} {k : Nat} (h : ixN n z = some k) (hn : n ≤ sizeLine) : -(2 ^ 63) ≤ z ∧ z < 2 ^ 63 := by
  obtain ⟨_, _, h1, h2⟩ := ixN_seq h
  rw [sizeLine_eq] at hn
  omega
section
variable {X : Cx} {E : WX} {L : Lp} {m : Mds} {e : Expr} {f : Env → Res D} {fx : Env → Res (D × Env)} {x : Str} {pos p1 p2 p3 : Pos}
theorem jx_pop (i : Nat) (he : JE X EF m .sh e f) (hmd : IsOw (mdAt m i) := by first | exact .inl rfl | exact .inr ⟨_, rfl⟩) (hl : i < m.length := by first | decide | simp) (hN : X.N[i]? = some x := by rfl) (hv : Vis X.env.scope x := by first | exact Or.inl rfl | exact Or.inr (Or.inl rfl) | exact Or.inr (Or.inr rfl))
    (hd : (x == ("__debug__" : Str)) = false := by decide) (hcd : (x == ("__classdict__" : Str)) = false := by decide)
    (hpe : ∀ {to te : TE}, PE X (.Name x p1) to → PE X e te → PE X (.Call (.Attribute (.Name x p1) "pop" p2) [e] [] p3) (tBM X.K "list" rPopAt to (tCons te tNil)) := by
      intro to te ho he
      exact pe_bm PySem.F.plainAttrs_list PySem.F.slot_list_pop PySem.F.type_list_pop mt_popAt ho (pa_cons he pa_nil)) :
    JX X m (.Call (.Attribute (.Name x p1) "pop" p2) [e] [] p3) (fPop i f) := by
  refine ⟨⟨fun pins s σ H Q I h => (hpe (pe_var hN hv hd hcd) he.pe).run pins s σ H Q I ?_⟩⟩
  obtain ⟨S0, H0, S, Fp, ρ, st, p⟩ := h
  unfold fPop at p
  split at p
  · rename_i d ρ1 er
    split at er
    · rename_i xs exs
      obtain ⟨pa, vs, ds, eds, e1, e2, e3, e4, e5⟩ := st.own hmd exs
      cases eds
      refine ⟨_, e2, .inl ⟨rfl, vs, .inl (.inl e4)⟩, S, ρ, st.envM, ?_⟩
      split at er
      · rename_i z ez
        rw [ez]
        intro v S1 H1 fp s1 o _ _
        cases o.1
        split at er
        · rename_i k ek
          split at er
          · rename_i y ey
            split at er
            rotate_left
            · cases er
            rename_i hz0
            cases er
            obtain ⟨qa, ws, ds1, eds, q1, q2, q3, q4, q5⟩ := (st.step s1).own hmd exs
            cases eds
            obtain rfl := Same.ref_eq e2 q2
            obtain ⟨w, ew, rw'⟩ := q5.get ey
            obtain ⟨b1, b2⟩ := ix_fits ek (szOk_ok hz0)
            exact ⟨_, ws, z, k, w, rfl, rfl, q4, b1, b2, by rw [q5.len]; exact (ixN_seq ek).1, ew, p w S1 Fp _ s1.ss ((st.step s1).write hl hmd exs q1 q2 q3 q4 (q5.eraseIdx k)) rw'⟩
          · cases er
        · cases er
      · cases er
    · cases er
  · exact p.elim
theorem jx_pop0 (i : Nat) (hmd : IsOw (mdAt m i) := by first | exact .inl rfl | exact .inr ⟨_, rfl⟩) (hl : i < m.length := by first | decide | simp) (hN : X.N[i]? = some x := by rfl) (hv : Vis X.env.scope x := by first | exact Or.inl rfl | exact Or.inr (Or.inl rfl) | exact Or.inr (Or.inr rfl))
    (hd : (x == ("__debug__" : Str)) = false := by decide) (hcd : (x == ("__classdict__" : Str)) = false := by decide)
    (hpe : ∀ {to : TE}, PE X (.Name x p1) to → PE X (.Call (.Attribute (.Name x p1) "pop" p2) [] [] p3) (tBM0 X.K "list" rPop to) := by
      intro to ho
      exact pe_bm0 PySem.F.plainAttrs_list PySem.F.slot_list_pop PySem.F.type_list_pop mt_pop ho) :
    JX X m (.Call (.Attribute (.Name x p1) "pop" p2) [] [] p3) (fPop0 i) := by
  refine ⟨⟨fun pins s σ H Q I h => (hpe (pe_var hN hv hd hcd)).run pins s σ H Q I ?_⟩⟩
  obtain ⟨S0, H0, S, Fp, ρ, st, p⟩ := h
  unfold fPop0 at p
  split at p
  · rename_i d ρ1 er
    split at er
    · rename_i xs exs
      obtain ⟨pa, vs, ds, eds, e1, e2, e3, e4, e5⟩ := st.own hmd exs
      cases eds
      split at er
      · rename_i y ey
        cases er
        obtain ⟨w, ew, rw'⟩ := e5.get ey
        rw [← e5.len] at ew
        exact ⟨_, e2, .inl ⟨rfl, vs, .inl (.inl e4)⟩, _, vs, w, rfl, rfl, e4, ew, p w S Fp _ (Same.refl _) (st.write hl hmd exs e1 e2 e3 e4 e5.dropLast) rw'⟩
      · cases er
    · cases er
  · exact p.elim
theorem js_setX (i : Nat) {pos' : Pos} (he : JX X m e fx) (hN : X.N.Nodup) (hl : i < m.length := by first | decide | simp) (hi : X.N[i]? = some x := by rfl) (hx : Loc X.env.scope x := by first | exact Or.inl rfl | exact Or.inr rfl)
    (hs : swapsWith e (some (.Name x pos')) pos.line X.env = pure false := by rfl) (hf : X.fn x = true ∨ X.env.scope.names.lookup x = some .local := by first | exact .inl rfl | exact .inr rfl) :
    JS X E L m (m.set i .sh) (.Assign [.Name x pos'] e pos) (fSetX i fx) := by
  refine ⟨PSimp (ps_set hN hi hx he.pe hs hf) fun D σ H h => ?_⟩
  obtain ⟨S0, H0, ρ, ⟨S, Fp, st⟩, p⟩ := h
  unfold fSetX at p
  split at p
  · rename_i d ρ1 er
    refine ⟨S0, H0, S, Fp, ρ, st, ?_⟩
    try rw [er]
    intro v S1 F1 H1 _ st1 rd
    exact p _ _ (StF.stM (st1.set hl ⟨rd, rfl⟩ List.nodup_nil (fun a z => nomatch z) fun j e' hj ej a ha z => nomatch z))
  · exact p.elim
theorem js_appX (i : Nat) (he : JX X m e fx) (hmd : IsOw (mdAt m i) := by first | exact .inl rfl | exact .inr ⟨_, rfl⟩) (hl : i < m.length := by first | decide | simp) (hN : X.N[i]? = some x := by rfl) (hv : Vis X.env.scope x := by first | exact Or.inl rfl | exact Or.inr (Or.inl rfl) | exact Or.inr (Or.inr rfl))
    (hd : (x == ("__debug__" : Str)) = false := by decide) (hcd : (x == ("__classdict__" : Str)) = false := by decide)
    (hs : swapsWith (.Call (.Attribute (.Name x p1) "append" p2) [e] [] p3) none pos.line X.env = pure false := by rfl)
    (hpe : ∀ {to te : TE}, PE X (.Name x p1) to → PE X e te → PE X (.Call (.Attribute (.Name x p1) "append" p2) [e] [] p3) (tBM X.K "list" rAppend to (tCons te tNil)) := by
      intro to te ho he
      exact pe_bm PySem.F.plainAttrs_list PySem.F.slot_list_append PySem.F.type_list_append mt_append ho (pa_cons he pa_nil)) :
    JS X E L m m (.Expr (.Call (.Attribute (.Name x p1) "append" p2) [e] [] p3) pos) (fAppX i fx) := by
  refine ⟨PSimp (ps_expr (hpe (pe_var hN hv hd hcd) he.pe) hs) fun D σ H h => ?_⟩
  obtain ⟨S0, H0, ρ, ⟨S, Fp, st⟩, p⟩ := h
  unfold fAppX at p
  split at p
  · rename_i xs0 exs0
    obtain ⟨pa, vs, ds, eds, e1, e2, e3, e4, e5⟩ := st.own hmd exs0
    refine ⟨_, e2, .inl ⟨rfl, vs, .inl (.inl e4)⟩, S0, H0, S, Fp, ρ, st, ?_⟩
    split at p
    · rename_i d ρ1 er
      intro v S1 F1 H1 _ st1 rd
      split at p
      · rename_i xs exs
        split at p
        · rename_i hz
          obtain ⟨qa, ws, ds1, eds1, q1, q2, q3, q4, q5⟩ := st1.own hmd exs
          cases eds1
          obtain rfl := Same.ref_eq e2 q2
          exact ⟨_, ws, v, rfl, rfl, q4, by rw [q5.len]; exact szOk_lt hz, p _ _ (st1.write hl hmd exs q1 q2 q3 q4 (q5.snoc rd)).stM⟩
        · exact p.elim
      · exact p.elim
    · exact p.elim
  · exact p.elim
end
end Da
namespace Da
open PySem PySem.Spec L2
/-- whole numbers from naturals -/
def nat (i : Nat) : D := .int (i : Int)
theorem rng_zero {n : Nat} : rng 0 n = (List.range n).map nat := by
  unfold rng
  refine List.map_congr_left fun i _ => ?_
  rw [Int.zero_add]
  rfl
@[simp] theorem rng0_length {lo : Int} {n : Nat} : (rng lo n).length = n := rng_length
@[simp] theorem dList_lst {xs : List D} : dList (.lst xs) = .ok (.lst xs) := rfl
@[simp] theorem dList_tup {xs : List D} : dList (.tup xs) = .ok (.lst xs) := rfl
@[simp] theorem dTuple_lst {xs : List D} : dTuple (.lst xs) = .ok (.tup xs) := rfl
@[simp] theorem dTuple_tup {xs : List D} : dTuple (.tup xs) = .ok (.tup xs) := rfl
@[simp] theorem fTupleR1_ap {f : Env → Res D} {ρ : Env} {j : Int} (h : f ρ = .ok (.int j)) (h0 : 0 ≤ j) (h1 : j ≤ 1000000) : fTupleR1 f ρ = .ok (.tup ((List.range j.toNat).map nat)) := by
  unfold fTupleR1
  rw [h]
  show (if rgnOk 0 j = true then Res.ok (D.tup (rng 0 (j - 0).toNat)) else .er) = _
  rw [if_pos (show rgnOk 0 j = true from stuck_iff.mpr ⟨stuck_iff.mpr (by omega), by omega⟩), rng_zero, Int.sub_zero]
@[simp] theorem wipeD_one {ρ : Env} {i : Nat} : wipeD ρ [i] = ρ.set i none := rfl
@[simp] theorem fSc_int {f : Env → Res D} {ρ : Env} {j : Int} (h : f ρ = .ok (.int j)) : fSc f ρ = .ok (.int j) := by unfold fSc; rw [h]; rfl
@[simp] theorem fNx_ok {α : Type} {f : Env → Res α} {ρ : Env} {d : α} (h : f ρ = .ok d) : fNx f ρ = .ok d := by unfold fNx; rw [h]
theorem pys_ints : ∀ ns : List Int, D.pys (ns.map D.int) = some (ns.map PyData.int)
  | [] => rfl
  | n :: ns => by
    rw [List.map_cons, List.map_cons]
    unfold D.pys
    rw [pys_ints ns]
    rfl
theorem en_ints {ns : List Int} : (ns.map D.int).map D.en = ns.map PyData.int := by
  rw [List.map_map]
  rfl
theorem srt_ints (ns : List Int) : SrtOk (ns.map D.int) := by
  refine ⟨⟨_, pys_ints ns⟩, ?_, ?_, fun d hd => ?_⟩
  · rw [en_ints]
    exact PySem.W.AllAlike.of fun _ _ => by simp [PySem.W.alike]
  · rw [en_ints]
    exact PySem.W.Sortable.others fun _ => ⟨(fun z => nomatch z), (fun xs z => nomatch z)⟩
  · obtain ⟨n, _, rfl⟩ := List.mem_map.mp hd
    show PyData.depth (.int n) ≤ 20
    simp [PyData.depth]
def leI (x y : Int) : Bool := decide (x ≤ y)
theorem leD_int {x y : Int} : leD (.int x) (.int y) = leI x y := by
  have := congrFun (congrFun (PySem.W.dataLe_int (fun b : Int => b)) x) y
  exact this
theorem sort_ints (ns : List Int) : (ns.map D.int).mergeSort leD = (ns.mergeSort leI).map D.int := by
  exact (List.map_mergeSort (r := leI) (s := leD) (f := D.int) (l := ns) (fun a _ b _ => (leD_int).symm)).symm
theorem dSorted_lst {ns : List Int} : dSorted (.lst (ns.map D.int)) = .ok (.lst ((ns.mergeSort leI).map D.int)) := by
  show (if srtOk (ns.map D.int) = true then _ else _) = _
  rw [if_pos (show srtOk (ns.map D.int) = true from stuck_iff.mpr (srt_ints ns)), sort_ints]
theorem dSorted_tup {ns : List Int} : dSorted (.tup (ns.map D.int)) = .ok (.lst ((ns.mergeSort leI).map D.int)) := by
  show (if srtOk (ns.map D.int) = true then _ else _) = _
  rw [if_pos (show srtOk (ns.map D.int) = true from stuck_iff.mpr (srt_ints ns)), sort_ints]
/-- 0, 1, .. n - 1 -/
def upto (n : Nat) : List Int := (List.range n).map fun (i : Nat) => (i : Int)
theorem upto_length {n : Nat} : (upto n).length = n := by unfold upto; rw [List.length_map, List.length_range]
theorem mem_upto {n : Nat} {x : Int} : x ∈ upto n ↔ 0 ≤ x ∧ x < n := by
  unfold upto
  rw [List.mem_map]
  constructor
  · rintro ⟨i, hi, rfl⟩
    have := List.mem_range.mp hi
    omega
  · intro h
    exact ⟨x.toNat, List.mem_range.mpr (by omega), by omega⟩
theorem upto_nodup {n : Nat} : (upto n).Nodup := by
  unfold upto
  rw [List.Nodup, List.pairwise_map]
  exact List.pairwise_lt_range.imp fun h z => by omega
end Da
namespace Da
open PySem PySem.Spec L2
def keyD : D → Option Key
  | .int i => some (.inl i)
  | .str s => some (.inr s)
  | _ => none
section
variable {K : PySem.W.Frag} {mg : Str → Option Value} {S H : Hp}
theorem keyD_ok {v : V} {d : D} {k : Key} (r : Rep K mg S v d) (h : keyD d = some k) : v = kV k := by
  cases d with
  | int i => cases h; cases r; rfl
  | str s => cases h; cases r; rfl
  | _ => cases h
end
def rDIn (neg : Bool) : R2 := fun x y H Q => ∃ a o, y = .ref a ∧ DGet H a x o ∧ Q (.bl (o.isSome != neg)) H
def rDIx : R2 := fun x y H Q => ∃ a v, x = .ref a ∧ DGet H a y (some v) ∧ Q v H
section
variable {X : Cx} {E : WX} {m : Mds} {a b : Expr} {fa fb : Env → Res D} {pos : Pos} {k : Nat}
theorem op_dNotIn (hu : X.A.units + 1 < cLine) : OpR X (compareOp .NotIn) (rDIn true) := by
  intro pins s σ H x y v u Q I rx ry h
  obtain ⟨d, o, rfl, g, q⟩ := h
  cases ry
  refine d_notIn hu I g rx fun s' I' => ⟨.bl (!o.isSome), H, I', rfl, ?_⟩
  cases o <;> exact q
end
end Da
namespace Da
open PySem PySem.Spec L2
end Da
namespace Da
open PySem PySem.Spec L2
def lookF : List Str → List D → Str → Option D
  | n :: ns, d :: ds, f => if n = f then some d else lookF ns ds f
  | _, _, _ => none
def dFld (c f : Str) : D → Res D
  | .obj c' ns ds => if c' = c then (match lookF ns ds f with
    | some d => .ok d
    | none => .er) else .er
  | _ => .er
/-- the class c has nothing called f: its instances' own f is read and stored -/
def FldAt (K : PySem.W.Frag) (mg : Str → Option Value) (c f : Str) : Prop := ∀ C, mg c = some (.ref C) → Cls K C ∧ NoAttr K C f
section
variable {K : PySem.W.Frag} {mg : Str → Option Value} {S H : Hp}
theorem Rep.of_obj {v : V} {c : Str} {ns : List Str} {ds : List D} (h : Rep K mg S v (.obj c ns ds)) : ∃ a C dx fs, v = .ref a ∧ S a = some (.ins C dx fs) ∧ mg c = some (.ref C) ∧ ns = fs.map (·.1) ∧ RepL K mg S (fs.map (·.2)) ds := by
  cases h with
  | obj h hm hl hi =>
    refine ⟨_, _, _, _, rfl, h, hm, rfl, by rw [List.length_map]; exact hl, fun i v d a b => ?_⟩
    rw [List.getElem?_map] at a
    cases e : (_ : List (Str × V))[i]? with
    | none => rw [e] at a; cases a
    | some p => rw [e] at a; cases a; exact hi i p d e b
theorem lookF_ok : ∀ {fs : List (Str × V)} {ds : List D} {f : Str}, RepL K mg S (fs.map (·.2)) ds → (lookF (fs.map (·.1)) ds f = none ∧ fs.lookup f = none) ∨ ∃ d v, lookF (fs.map (·.1)) ds f = some d ∧ fs.lookup f = some v ∧ Rep K mg S v d
  | [], ds, f, r => .inl ⟨by cases ds <;> rfl, rfl⟩
  | p :: fs, [], f, r => by have := r.len; simp at this
  | p :: fs, d :: ds, f, r => by
    rw [List.map_cons] at r
    by_cases e : p.1 = f
    · refine .inr ⟨d, p.2, ?_, ?_, r.head⟩
      · show (if p.1 = f then some d else _) = _
        rw [if_pos e]
      · obtain ⟨n, v⟩ := p
        rw [List.lookup_cons, show (f == n) = true from by simp [show n = f from e]]
    · have ih := lookF_ok (f := f) r.tail
      have q : lookF ((p :: fs).map (·.1)) (d :: ds) f = lookF (fs.map (·.1)) ds f := by
        show (if p.1 = f then some d else _) = _
        rw [if_neg e]
      have q2 : (p :: fs).lookup f = fs.lookup f := by
        obtain ⟨n, v⟩ := p
        rw [List.lookup_cons, show (f == n) = false from by simp; exact fun z => e z.symm]
      rw [q, q2]
      exact ih
/-- a field stored, its place kept or at the end -/
def putN (f : Str) : List Str → List Str
  | [] => [f]
  | g :: r => if g = f then g :: r else g :: putN f r
def putD (f : Str) (d : D) : List Str → List D → List D
  | g :: ns, x :: ds => if g = f then d :: ds else x :: putD f d ns ds
  | _, ds => ds ++ [d]
theorem putF_ok {f : Str} {v : V} {d : D} (h : Rep K mg S v d) : ∀ {fs : List (Str × V)} {ds : List D}, RepL K mg S (fs.map (·.2)) ds → (putF f v fs).map (·.1) = putN f (fs.map (·.1)) ∧ RepL K mg S ((putF f v fs).map (·.2)) (putD f d (fs.map (·.1)) ds)
  | [], ds, r => by
    have : ds = [] := r.nil_iff.mp rfl
    subst this
    exact ⟨rfl, .cons h .nil⟩
  | p :: fs, [], r => by have := r.len; simp at this
  | (g, x) :: fs, y :: ds, r => by
    rw [List.map_cons] at r
    obtain ⟨i1, i2⟩ := putF_ok h r.tail
    by_cases e : g = f
    · refine ⟨?_, ?_⟩
      · show ((if g = f then (g, v) :: fs else (g, x) :: putF f v fs).map (·.1)) = (if g = f then g :: fs.map (·.1) else g :: putN f (fs.map (·.1)))
        rw [if_pos e, if_pos e]
        rfl
      · show RepL K mg S ((if g = f then (g, v) :: fs else (g, x) :: putF f v fs).map (·.2)) (if g = f then d :: ds else y :: putD f d (fs.map (·.1)) ds)
        rw [if_pos e, if_pos e]
        exact .cons h r.tail
    · refine ⟨?_, ?_⟩
      · show ((if g = f then (g, v) :: fs else (g, x) :: putF f v fs).map (·.1)) = (if g = f then g :: fs.map (·.1) else g :: putN f (fs.map (·.1)))
        rw [if_neg e, if_neg e, List.map_cons, i1]
      · show RepL K mg S ((if g = f then (g, v) :: fs else (g, x) :: putF f v fs).map (·.2)) (if g = f then d :: ds else y :: putD f d (fs.map (·.1)) ds)
        rw [if_neg e, if_neg e, List.map_cons]
        exact .cons r.head i2
end
section
variable {X : Cx} {E : WX} {L : Lp} {m : Mds} {a e : Expr} {fa f : Env → Res D} {pos p1 p2 : Pos} {c x : Str} {fn : Str}
theorem je_fld (c : Str) (F : FldAt X.K X.mg c fn) (ha : JE X E m .sh a fa) (hb : attributeBase a fn X.env (eval a X.env) = eval a X.env := by rfl) : JE X E m .sh (.Attribute a fn pos) (f1 (dFld c fn) fa) := by
  refine ⟨PEimp (pe_fld ha.pe hb) fun σ H Q h => ?_⟩
  obtain ⟨S, ρ, hm, hp⟩ := h
  refine ⟨S, ρ, hm, (Post.bind hp).post fun d v S1 H1 s1 r k => ?_⟩
  cases d with
  | obj c' ns ds =>
    have k2 : Post X.K X.mg (WE E σ) S1 H1 .sh (if c' = c then (match lookF ns ds fn with
      | some d => .ok d
      | none => .er) else .er) Q := k
    by_cases ec : c' = c
    · rw [if_pos ec] at k2
      subst ec
      obtain ⟨q, C, dx, fs, rfl, hq, hC, rfl, rv⟩ := r.of_obj
      obtain ⟨cl, na⟩ := F C hC
      rcases lookF_ok (f := fn) rv with ⟨e1, _⟩ | ⟨d, w, e1, e2, rw'⟩
      · rw [e1] at k2; exact k2.elim
      · rw [e1] at k2
        exact ⟨q, C, dx, fs, w, rfl, s1.sub _ _ hq, cl, na, e2, Post.val k2 s1.sub rw'⟩
    · rw [if_neg ec] at k2
      exact k2.elim
  | _ => exact k.elim
/-- .. of the object under way in slot i -/
theorem je_fldO (c : Str) (i : Nat) (F : FldAt X.K X.mg c fn) {q : Addr} (hmd : mdAt m i = .ob q := by rfl) (hN : X.N[i]? = some x := by rfl) (hv : Vis X.env.scope x := by first | exact Or.inl rfl | exact Or.inr (Or.inl rfl) | exact Or.inr (Or.inr rfl))
    (hd : (x == ("__debug__" : Str)) = false := by decide) (hcd : (x == ("__classdict__" : Str)) = false := by decide) (hb : attributeBase (.Name x p1) fn X.env (eval (.Name x p1) X.env) = eval (.Name x p1) X.env := by rfl) : JE X E m .sh (.Attribute (.Name x p1) fn pos) (f1 (dFld c fn) (fV i)) := by
  refine ⟨PEimp (pe_fld (pe_var hN hv hd hcd) hb) fun σ H Q h => ?_⟩
  obtain ⟨S, ρ, ⟨hs, Fp, en⟩, hp⟩ := h
  unfold f1 fV at hp
  split at hp
  · rename_i d ed
    obtain ⟨v, e1, o⟩ := en.at_ i d ed
    rw [hmd] at o
    obtain ⟨dx, C, c', fs, ds, rfl, rfl, _, _, _, hC, hq, _, rv⟩ := o
    have k2 : Post X.K X.mg (WE E σ) S H .sh (if c' = c then (match lookF (fs.map (·.1)) ds fn with
      | some d => .ok d
      | none => .er) else .er) Q := hp
    by_cases ec : c' = c
    · rw [if_pos ec] at k2
      subst ec
      obtain ⟨cl, na⟩ := F C hC
      rcases lookF_ok (f := fn) rv with ⟨e2, _⟩ | ⟨d, w, e2, e3, rw'⟩
      · rw [e2] at k2; exact k2.elim
      · rw [e2] at k2
        exact ⟨_, e1, q, C, dx, fs, w, rfl, hq, cl, na, e3, Post.val k2 hs rw'⟩
    · rw [if_neg ec] at k2
      exact k2.elim
  · exact hp.elim
/-- self.f = e -/
def fFld (c fn : Str) (i : Nat) (f : Env → Res D) : FS := fun ρ => match ρ[i]? with
  | some (some (.obj c' ns ds)) => if c' = c ∧ ns.length < 100 then lift (f ρ) ρ fun d => .ok (.nx (ρ.set i (some (.obj c' (putN fn ns) (putD fn d ns ds))))) else .er
  | _ => .er
/-- the object of slot i is written -/
theorem StF.writeO {K : PySem.W.Frag} {mg : Str → Option Value} {S0 H0 S H : Hp} {Fp : Nat → List Addr} {σ : L2.St} {ρ : Env} {i : Nat} {d0 : D} {p dx C : Addr} {c : Str} {gs : List (Str × V)} {ys : List D} (st : StF K mg m S0 H0 S Fp σ ρ H) (hmd : mdAt m i = .ob p) (hρ : ρ[i]? = some (some d0))
    (hp : Fp i = [p, dx]) (hσ : σ[i]? = some (some (.ref p))) (sp : S p = none) (sd : S dx = none) (hC : mg c = some (.ref C)) (hdx : H dx = some (.own p)) (r : RepL K mg S (gs.map (·.2)) ys) : StF K mg m S0 H0 S Fp σ (ρ.set i (some (.obj c (gs.map (·.1)) ys))) (upd H p (.ins C dx gs)) := by
  obtain ⟨s, e, nw⟩ := st
  have hil : i < ρ.length := (List.getElem?_eq_some_iff.mp hρ).1
  have h0 : H0 p = none := nw i _ hρ p (by rw [hp]; exact List.mem_cons_self)
  have hne : dx ≠ p := fun z => by
    have := e.nd i _ hρ
    rw [hp, z] at this
    simp at this
  have key : ∀ j d', (ρ.set i (some (.obj c (gs.map (·.1)) ys)))[j]? = some (some d') → (j = i ∧ d' = .obj c (gs.map (·.1)) ys) ∨ (j ≠ i ∧ ρ[j]? = some (some d')) := fun j d' ej => by
    by_cases hj : j = i
    · subst hj
      rw [List.getElem?_set_self hil] at ej
      injection ej with z; injection z with z
      exact .inl ⟨rfl, z.symm⟩
    · rw [List.getElem?_set_ne (Ne.symm hj)] at ej
      exact .inr ⟨hj, ej⟩
  have same : ∀ {B : Hp}, Same B H → B p = none → Same B (upd H p (.ins C dx gs)) := fun hB hb a o ea => by
    rw [upd_ne (ne_of_none ea hb)]
    exact hB a o ea
  refine ⟨⟨same s.hh h0, s.ss, same s.sub sp, s.new⟩, ⟨by rw [List.length_set]; exact e.len, fun j d' ej => ?_, fun j d' ej => ?_, fun j k d1 d2 hjk e1 e2 => ?_⟩, fun j d' ej => ?_⟩
  · rcases key j d' ej with ⟨rfl, rfl⟩ | ⟨hj, ej'⟩
    · refine ⟨_, hσ, ?_⟩
      rw [hmd]
      exact ⟨dx, C, c, gs, ys, rfl, rfl, hp, sp, sd, hC, upd_same, by rw [upd_ne hne]; exact hdx, r⟩
    · obtain ⟨w, e1, o1⟩ := e.at_ j d' ej'
      exact ⟨w, e1, o1.other sp fun z => e.apart i j _ d' (Ne.symm hj) hρ ej' p (by rw [hp]; exact List.mem_cons_self) z⟩
  · rcases key j d' ej with ⟨rfl, rfl⟩ | ⟨hj, ej'⟩
    · exact e.nd _ _ hρ
    · exact e.nd j d' ej'
  · have live : ∀ j d', (ρ.set i (some (.obj c (gs.map (·.1)) ys)))[j]? = some (some d') → ∃ d'', ρ[j]? = some (some d'') := fun j d' ej => by
      rcases key j d' ej with ⟨rfl, _⟩ | ⟨_, ej'⟩
      · exact ⟨_, hρ⟩
      · exact ⟨_, ej'⟩
    obtain ⟨d1', h1⟩ := live j d1 e1
    obtain ⟨d2', h2⟩ := live k d2 e2
    exact e.apart j k d1' d2' hjk h1 h2
  · rcases key j d' ej with ⟨rfl, rfl⟩ | ⟨hj, ej'⟩
    · exact nw _ _ hρ
    · exact nw j d' ej'
theorem js_fld (c : Str) (i : Nat) (F : FldAt X.K X.mg c fn) (he : JE X E m .sh e f) {q : Addr} (hmd : mdAt m i = .ob q := by rfl) (hN : X.N[i]? = some x := by rfl) (hv : Vis X.env.scope x := by first | exact Or.inl rfl | exact Or.inr (Or.inl rfl) | exact Or.inr (Or.inr rfl))
    (hd : (x == ("__debug__" : Str)) = false := by decide) (hcd : (x == ("__classdict__" : Str)) = false := by decide) (hs : swapsWith e (some (.Attribute (.Name x p1) fn p2)) pos.line X.env = pure false := by rfl) :
    JS X E L m m (.Assign [.Attribute (.Name x p1) fn p2] e pos) (fFld c fn i f) := by
  refine ⟨PSimp (ps_fld (pe_var hN hv hd hcd) he.pe hs) fun D σ H h => ?_⟩
  obtain ⟨S0, H0, ρ, ⟨S, Fp, st⟩, p⟩ := h
  unfold fFld at p
  split at p
  · rename_i c' ns ds exs
    by_cases hc : c' = c ∧ ns.length < 100
    · rw [if_pos hc] at p
      obtain ⟨rfl, hl⟩ := hc
      refine ⟨S, ρ, st.envM, (lift_post st p).post fun d v S1 H1 s1 r k => ?_⟩
      have st1 := st.step s1
      obtain ⟨w, e1, o⟩ := st1.2.1.at_ i _ exs
      rw [hmd] at o
      obtain ⟨dx, C, c2, gs, ys, rfl, ed, e3, e4, e5, e6, e7, e8, e9⟩ := o
      cases ed
      obtain ⟨cl, na⟩ := F C e6
      obtain ⟨k1, k2⟩ := putF_ok (f := fn) r e9
      refine ⟨_, e1, q, C, dx, gs, rfl, e7, cl, na, by rw [List.length_map] at hl; omega, ?_⟩
      have w := st1.writeO (gs := putF fn v gs) (ys := putD fn d (gs.map (·.1)) ds) hmd exs e3 e1 e4 e5 e6 e8 k2
      rw [k1] at w
      exact k σ _ w.stM
    · rw [if_neg hc] at p
      exact p.elim
  · exact p.elim
end
end Da
namespace Da
open PySem PySem.Spec L2
/-- what an __init__ promises: the new object at p, told by f of the arguments -/
def spI (K : PySem.W.Frag) (mg : Str → Option Value) (np : Nat) (c : Str) (f : List D → Res D) : Sp := fun vs H Q E => ∃ (S : Hp) (p dx C : Addr) (us : List V) (ds : List D), vs = .ref p :: us ∧ Same S H ∧ S p = none ∧ S dx = none ∧ dx ≠ p ∧ mg c = some (.ref C) ∧ H p = some (.ins C dx []) ∧ H dx = some (.own p) ∧ RepL K mg S us ds ∧ ds.length = np ∧
  (match f ds with
  | .ok d => ∀ S' H' fp, Step S (fun a => if a = p ∨ a = dx then none else H a) S' H' → OwnAt K mg S' H' fp (.ref p) d (.ob p) → fp.Nodup → (∀ a, a ∈ fp → a = p ∨ a = dx ∨ H a = none) → Q .non H'
  | .ex c fs => ∀ S' H' cls dd, Step S (fun a => if a = p ∨ a = dx then none else H a) S' H' → ExcAt K mg S' H' cls dd c fs → E cls dd H'
  | .er => False)
/-- the run of an __init__ -/
def runI (n : Nat) (c : Str) (F : FS) (ds : List D) : Res D := match F (some (.obj c [] []) :: (ds.map some ++ List.replicate (n - 1 - ds.length) none)) with
  | .ok (.nx ρ) => (match ρ[0]? with
    | some (some d) => .ok d
    | _ => .er)
  | .ok (.xc c fs _) => .ex c fs
  | _ => .er
section
variable {P : Program} {w : World} {K : PySem.W.Frag} {mg : Str → Option Value} {base : Heap}
theorem fn_okI {x qual c : Str} {st : Stmt} {f : Addr} {fd : FuncData} {N ps : List Str} {k np : Nat} {F : FS} (Fn : Fun K x qual st f fd) (Sc : FnScope N ps (defScope st)) (hnp : ps.length ≤ N.length) (hps : ps.length = np + 1)
    (h : ∀ (p : Addr) (cdv : Value) (A : Around) (outer : List PySem.Env) (s : Shared) (H : Hp) (E : XK), Room k (A.deeper (PyProof.Rows.envOfC qual (defScope st) s.heap.objs.size f cdv)) →
      JSs (cxOf (L2.CX P w) P w K mg base N qual (defScope st) f cdv A outer s H E) (fun cls d _ H => E cls d H) ⟨[], [], .dt⟩ (.ob p :: msh (N.length - 1)) (.ob p :: msh (N.length - 1)) (defBody st) F) :
    FnOk P w K mg base (L2.CX P w) (k + 1) f fd ps (spI K mg np c (runI N.length c F)) := by
  refine Fn.okX Sc (fun vs H Q E hsp => ?_) (fun cdv A outer s H vs Q E hr hsp => ?_)
  · obtain ⟨S, p, dx, C, us, ds, rfl, _, _, _, _, _, _, _, rv, hl, _⟩ := hsp
    rw [List.length_cons, rv.len, hl, hps]
  · obtain ⟨S, p, dx, C, us, ds, rfl, hs, sp, sd, hne, hC, hp, hd, rv, hl, hq⟩ := hsp
    have hN : N.length = np + 1 + (N.length - 1 - np) := by omega
    let H0 : Hp := fun a => if a = p ∨ a = dx then none else H a
    have h0 : ∀ a, (a = p ∨ a = dx) → H0 a = none := fun a z => if_pos z
    have h0H : Same H0 H := fun a o e => by
      have e : (if a = p ∨ a = dx then none else H a) = some o := e
      split at e
      · cases e
      · exact e
    have ml : ∀ j, j ≠ 0 → mdAt (.ob p :: msh (N.length - 1)) j = .sh := fun j hj => by
      obtain ⟨i, rfl⟩ : ∃ i, j = i + 1 := ⟨j - 1, by omega⟩
      show mdAt (msh _) i = .sh
      exact mdAt_msh
    let Fp : Nat → List Addr := fun i => if i = 0 then [p, dx] else []
    refine ⟨_, (h p cdv A outer s H E hr).ps, S, H0, some (.obj c [] []) :: (ds.map some ++ List.replicate (N.length - 1 - ds.length) none), ⟨S, Fp, ⟨h0H, Same.refl _, hs, fun _ z => .inl z⟩, ⟨?_, fun i d e => ?_, fun i d e => ?_, fun i j d e hij e1 e2 a ha => ?_⟩, fun i d e a ha => ?_⟩, ?_⟩
    · unfold L2.start
      rw [List.length_append, List.length_cons, List.length_append, List.length_map, List.length_map, List.length_replicate, List.length_replicate, List.length_cons, rv.len]
      omega
    · cases i with
      | zero =>
        rw [List.getElem?_cons_zero] at e
        have e : D.obj c [] [] = d := by injection e with e; injection e
        subst e
        refine ⟨.ref p, ?_, ?_⟩
        · unfold L2.start
          rfl
        · exact ⟨dx, C, c, [], [], rfl, rfl, rfl, sp, sd, hC, hp, hd, .nil⟩
      | succ i =>
        rw [List.getElem?_cons_succ] at e
        by_cases hi : i < ds.length
        · rw [List.getElem?_append_left (by rw [List.length_map]; exact hi), List.getElem?_map, List.getElem?_eq_getElem hi] at e
          have e' : ds[i] = d := by injection e with e; injection e
          obtain ⟨v, ev, r⟩ := rv.get (List.getElem?_eq_getElem hi)
          refine ⟨v, ?_, ?_⟩
          · unfold L2.start
            rw [List.map_cons, List.cons_append, List.getElem?_cons_succ, List.getElem?_append_left (by rw [List.length_map, rv.len]; exact hi), List.getElem?_map, ev]
            rfl
          · rw [ml _ (by omega), ← e']
            exact ⟨r, rfl⟩
        · rw [List.getElem?_append_right (by rw [List.length_map]; omega), List.getElem?_replicate] at e
          split at e <;> cases e
    · cases i with
      | zero =>
        show [p, dx].Nodup
        simp
        exact fun z => hne z.symm
      | succ i => exact List.nodup_nil
    · cases i with
      | zero =>
        cases j with
        | zero => exact absurd rfl hij
        | succ j => exact fun z => nomatch z
      | succ i => cases ha
    · cases i with
      | zero =>
        have : a = p ∨ a = dx := by simpa [Fp] using ha
        exact h0 a this
      | succ i => cases ha
    · unfold runI at hq
      cases ef : F (some (.obj c [] []) :: (ds.map some ++ List.replicate (N.length - 1 - ds.length) none)) with
      | ok o =>
        rw [ef] at hq
        cases o with
        | nx ρ =>
          intro σ' H' ⟨S', F', st'⟩
          simp only at hq
          cases e0 : ρ[0]? with
          | none => rw [e0] at hq; exact hq.elim
          | some d0 =>
            cases d0 with
            | none => rw [e0] at hq; exact hq.elim
            | some d =>
              rw [e0] at hq
              obtain ⟨v, _, o⟩ := st'.2.1.at_ 0 d e0
              have o : OwnAt K mg S' H' (F' 0) v d (.ob p) := o
              have ev : v = .ref p := by
                obtain ⟨_, _, _, _, _, e, _⟩ := o
                exact e
              subst ev
              refine hq S' H' (F' 0) st'.1 o (st'.2.1.nd 0 d e0) fun a ha => ?_
              have := st'.2.2 0 d e0 a ha
              by_cases z : a = p ∨ a = dx
              · rcases z with z | z
                · exact .inl z
                · exact .inr (.inl z)
              · have this : (if a = p ∨ a = dx then none else H a) = none := this
                rw [if_neg z] at this
                exact .inr (.inr this)
        | rt d => exact hq.elim
        | bk ρ => exact hq.elim
        | ct ρ => exact hq.elim
        | xc c fs ρ => exact fun σ' S' F' H' cls dd st' x' => hq S' H' cls dd st'.1 x'
      | ex c fs => rw [ef] at hq; exact hq.elim
      | er => rw [ef] at hq; exact hq.elim
end
section
variable {X : Cx} {E : WX} {m : Mds} {e o : Expr} {es : List Expr} {fs : Env → Res (List D)} {p pos apos : Pos} {c mn : Str} {k np : Nat} {f C : Addr} {fd : FuncData} {ps : List Str} {g : List D → Res D} {fa : Env → Res D}
/-- the class of this name makes its objects by g -/
def KeepsI (P : Program) (w : World) (K : PySem.W.Frag) (mg : Str → Option Value) (base : Heap) (c : Str) (k : Nat) (ps : List Str) (np : Nat) (g : List D → Res D) : Prop :=
  ∃ C f fd, mg c = some (.ref C) ∧ Mk K C f ∧ Binds K fd ps [] ∧ FnOk P w K mg base (L2.CX P w) k f fd ps (spI K mg np c g)
theorem make_run {E : XK} {sp : Sp} {pins : List (Addr × Obj)} {σ : L2.St} {H : Hp} {s : Shared} {Q : VK} {us : List Value} {vs : List V} (M : Mk X.K C f) (F : FnOk X.prog X.w X.K X.mg X.base (L2.CX X.prog X.w) k f fd ps sp) (hr : Room (k + 1) X.A) (hb : Binds X.K fd ps []) (hx : PassesAt (L2.CX X.prog X.w) X σ E) (I : Inv X pins σ H s) (rv : Vals vs us)
    (h : ∀ x dx, H x = none → H dx = none → dx ≠ x → sp (.ref x :: vs) (upd (upd H dx (.own x)) x (.ins C dx [])) (fun v H2 => v = .non ∧ Q (.ref x) H2) E) : wpAny (model X.prog X.w) X.A (call (.ref C) us) (EP X pins σ Q) X.xe s := by
  have n1 := I.hok.fresh (Nat.le_succ s.heap.objs.size)
  have n2 := I.hok.fresh (Nat.le_refl s.heap.objs.size)
  have hq := h (s.heap.objs.size + 1) s.heap.objs.size n1 n2 (Nat.ne_of_lt (Nat.lt_succ_self _))
  have J := Inv.made (C := C) I
  have rr : Vals (V.ref (s.heap.objs.size + 1) :: vs) (Value.ref (s.heap.objs.size + 1) :: us) := .cons rfl rv
  have hl : (Value.ref (s.heap.objs.size + 1) :: us).length = ps.length := rr.length.symm.trans (F.len _ _ _ _ hq)
  have bnd := hb _ (Value.ref (s.heap.objs.size + 1) :: us) J.kIn (by rw [List.append_nil]; exact hl)
  rw [List.append_nil] at bnd
  refine wpAny_call (make_map (f := f) I.kIn M.makes M.init (beq_iff_eq.mp M.fn) (codeAny_mono (F.run _ X.stack _ _ ⟨Value.ref (s.heap.objs.size + 1) :: us, []⟩ _ _ _ E (hr.make C us []) (J.env0.make C us []) bnd rr hq) fun fin s' hf => ?_))
  cases fin with
  | error u => exact hx pins _ _ u s' J hf
  | ok fl =>
    cases fl with
    | ret u =>
      obtain ⟨v, H', I3, ru, ev, q3⟩ := J.after hf
      subst ev
      exact ⟨ru, V.ref (s.heap.objs.size + 1), H', I3, rfl, q3⟩
    | _ => exact hf.elim
theorem je_make (G : KeepsI X.prog X.w X.K X.mg X.base c k ps np g) (hr : Room (k + 1) X.A) (tk : Takes X E) (ha : JA X E m (e :: es) fs) (hg : Gl X c := by rfl) (hdb : (c == ("__debug__" : Str)) = false := by decide)
    (he : starEach (e :: es) X.env = (false, eval e X.env) :: starEach es X.env := by rfl) (hpl : (backTo pos (starEach es X.env)).any (·.1) = false := by rfl) : JE X E m .sh (.Call (.Name c p) (e :: es) [] pos) (fOn (chk np g) fs) := by
  obtain ⟨C, f, fd, hC, M, hb, F⟩ := G
  refine ⟨⟨fun pins s σ H Q I h => ?_⟩⟩
  obtain ⟨S, ρ, hm, hp⟩ := h
  refine wpAny_Call_Name_kw (ld_glob I hg hC ?_ hdb)
  refine PySem.W.callWith_K (h₀ := X.base) I.ok.mod.kin M.kp (thn (ha.pa.run pos pins s σ H _ I ⟨S, ρ, hm, (Post.bind hp).imp fun ds S1 H1 s1 k1 => ?_⟩) fun us s1 ⟨vs, H1, I1, r, q⟩ => ⟨I1.kIn, make_run (E := WE E σ) (sp := spI X.K X.mg np c g) M F hr hb (passAt tk σ) I1 r q⟩) he hpl
  intro vs rs x dx hx hdx hne
  obtain ⟨hl, k1⟩ := k1.chkd
  have sx : S1 x = none := s1.sub.free hx
  have sd : S1 dx = none := s1.sub.free hdx
  have same : ∀ {B : Hp}, Same B H1 → Same B (upd (upd H1 dx (.own x)) x (.ins C dx [])) := fun hB a o ea => by
    have ea' := hB a o ea
    rw [upd_ne (ne_of_none ea' hx), upd_ne (ne_of_none ea' hdx)]
    exact ea'
  refine ⟨S1, x, dx, C, vs, ds, rfl, same s1.sub, sx, sd, hne, hC, upd_same, by rw [upd_ne hne, upd_same], rs, hl, ?_⟩
  have back : ∀ {S' H' : Hp}, Step S1 (fun a => if a = x ∨ a = dx then none else upd (upd H1 dx (.own x)) x (.ins C dx []) a) S' H' → Step S1 H1 S' H' := fun {S' H'} st => by
    refine ⟨fun a o ea => st.hh a o ?_, st.ss, st.sub, fun a ha => ?_⟩
    · show (if a = x ∨ a = dx then none else upd (upd H1 dx (.own x)) x (.ins C dx []) a) = some o
      have na : ¬ (a = x ∨ a = dx) := fun z => by
        rcases z with z | z
        · rw [z, hx] at ea; cases ea
        · rw [z, hdx] at ea; cases ea
      rw [if_neg na]
      exact same (Same.refl H1) a o ea
    · rcases st.new a ha with z | z
      · exact .inl z
      · have z : (if a = x ∨ a = dx then none else upd (upd H1 dx (.own x)) x (.ins C dx []) a) = none := z
        by_cases na : a = x ∨ a = dx
        · rcases na with rfl | rfl
          · exact .inr hx
          · exact .inr hdx
        · rw [if_neg na] at z
          refine .inr ?_
          rw [upd_ne (fun y => na (.inl y)), upd_ne (fun y => na (.inr y))] at z
          exact z
  cases eg : g ds with
  | ok d =>
    rw [eg] at k1
    intro S' H' fp st o hn hf
    refine ⟨rfl, ?_⟩
    -- the object is shared from here on
    have st' := back st
    let A : Addr → Prop := fun a => a ∈ fp
    have ho : ∀ a, A a → S' a = none := fun a ha => (o.out ha).1
    refine k1 (.ref x) (take S' H' A) H' [] ⟨st'.hh, st'.ss.trans (take_same st'.sub ho), take_sub st'.sub, fun a y => ?_⟩ ⟨o.shared st'.sub ho fun a ha => ha, rfl⟩ List.nodup_nil (fun a z => nomatch z)
    by_cases z : A a
    · rcases hf a z with q | q | q
      · rw [q]; exact .inr hx
      · rw [q]; exact .inr hdx
      · refine .inr ?_
        cases e1 : H1 a with
        | none => rfl
        | some u => rw [same (Same.refl H1) a u e1] at q; cases q
    · rw [take_out z] at y
      exact st'.new a y
  | ex c' fs' =>
    rw [eg] at k1
    exact fun S' H' cls dd st x' => k1 S' H' cls dd (back st) x'
  | er => rw [eg] at k1; exact k1.elim
end
end Da
namespace Da
open PySem PySem.Spec L2
/-- the j-th statement of a class -/
def inCls (s : Stmt) (j : Nat) : Stmt := match s with
  | .ClassDef _ _ _ body _ _ _ _ _ _ _ => body.getD j (.Pass ⟨0, 0, 0, 0⟩)
  | _ => .Pass ⟨0, 0, 0, 0⟩
def InitAt (K : PySem.W.Frag) (mg : Str → Option Value) (c qual : Str) (st : Stmt) (ps : List Str) : Prop := ∃ C f fd, mg c = some (.ref C) ∧ Mk K C f ∧ Fun K "__init__" qual st f fd ∧ Binds K fd ps []
section
variable {P : Program} {w : World} {K : PySem.W.Frag} {mg : Str → Option Value} {base h : Heap} {c mn qual : Str} {st : Stmt} {ps N : List Str} {k np : Nat} {md : Md} {F : FS} {f C : Addr} {oc : Value} {od an : Option Addr} {osl : Array (Option Value)} {kV doc pm cdv ct : Value}
theorem keepsI_of (dA : InitAt K mg c qual st ps) (Sc : FnScope N ps (defScope st)) (hnp : ps.length ≤ N.length) (hps : ps.length = np + 1)
    (h : ∀ (f p : Addr) (cdv : Value) (A : Around) (outer : List PySem.Env) (s : Shared) (H : Hp) (E : XK), Room k (A.deeper (PyProof.Rows.envOfC qual (defScope st) s.heap.objs.size f cdv)) →
      JSs (cxOf (L2.CX P w) P w K mg base N qual (defScope st) f cdv A outer s H E) (fun cls d _ H => E cls d H) ⟨[], [], .dt⟩ (.ob p :: msh (N.length - 1)) (.ob p :: msh (N.length - 1)) (defBody st) F) : KeepsI P w K mg base c (k + 1) ps np (runI N.length c F) := by
  obtain ⟨C, f, fd, hC, M, Fn, bd⟩ := dA
  exact ⟨C, f, fd, hC, M, bd, fn_okI Fn Sc hnp hps (h f)⟩
theorem cls_mk (pg : PySem.W.plainGet K C Str.empty = true) (hd : PySem.W.hasDictIn K C = true) (po : PySem.W.plainOver K C = true) (sa : PySem.W.findIn K (.ref C) "__setattr__" = some (some (.builtin "object.__setattr__"))) : Cls K C := ⟨pg, hd, po, sa⟩
theorem fldAt_mk {fn : Str} (X : K.In h) (G : h.Ns mainGlobals mg) (a : PySem.W.nsIn K mainGlobals c = some (some (.ref C))) (cl : Cls K C) (n : PySem.W.findIn K (.ref C) fn = some none) : FldAt K mg c fn := fun C' hC' => by
  rw [PySem.W.mg_of X G a] at hC'
  injection hC' with z
  injection z with z
  rw [← z]
  exact ⟨cl, n⟩
theorem initAt_mk (X : K.In h) (G : h.Ns mainGlobals mg) (a : PySem.W.nsIn K mainGlobals c = some (some (.ref C))) (m1 : PySem.W.makesIn K C = true) (m2 : PySem.W.findIn K (.ref C) "__init__" = some (some (.ref f))) (m3 : PySem.W.isFn K (.ref f) = true) (m4 : PySem.W.keepIn K (.ref C) = true)
    (l : K.lookup f = some ⟨oc, od, .func (PySem.W.fnOf "__init__" qual (defArgs st) (defBody st) (defScope st) .none kV doc pm an cdv ct), osl⟩) (cd : PySem.W.codeIn K cdv qual = true) (kf : PySem.W.keepIn K (.ref f) = true)
    (hb : ∀ (kV doc pm : Value) (an : Option Addr) (cdv ct : Value) (us : List Value), us.length = ps.length → bindArgs (PySem.W.fnOf "__init__" qual (defArgs st) (defBody st) (defScope st) .none kV doc pm an cdv ct) ⟨us, []⟩ = pure (ps.zip us)) : InitAt K mg c qual st ps := by
  have Fn := fun_mk (st := st) l cd kf
  exact ⟨C, f, _, PySem.W.mg_of X G a, ⟨m1, m2, m3, m4⟩, Fn, Fn.binds hb⟩
end
end Da
namespace Da
open PySem PySem.Spec L2
end Da
namespace Da
open PySem PySem.Spec L2
/-- small enough to add two of them -/
def Sm (q : Rat) : Prop := q.num.natAbs < 2 ^ 4400 ∧ q.den < 2 ^ 4400
end Da
namespace Da
open PySem PySem.Spec L2
/-- q is some n over L, n at most B -/
def In (L B : Nat) (q : Rat) : Prop := ∃ n : Int, q = (n : Rat) / ((L : Int) : Rat) ∧ n.natAbs ≤ B
end Da
namespace Da
open PySem PySem.Spec L2
def F_law_same (rec : List D → Res D) : FS := (fSeq (fIfS (fOr (fTr (f1 (dIsi "tuple") (fV 1))) (fTr (f1 (dIsi "list") (fV 1)))) (fSeq (fIfS (fOr (fNot (fTr (f1 (dIsi "tuple") (fV 0)))) (fB (f2 dNe (fOn (on1 dLen) (fA (fV 0) fA0)) (fOn (on1 dLen) (fA (fV 1) fA0))))) (fRet (fC (.bl false))) fNext)
    (fSeq (fFor (fR1 (fA (fOn (on1 dLen) (fA (fV 1) fA0)) fA0)) (gN 2) (fIfS (fNot (fTr (fOn (chk 2 rec) (fA (f2 dIx (fV 0) (fV 2)) (fA (f2 dIx (fV 1) (fV 2)) fA0))))) (fRet (fC (.bl false))) fNext))
    (fRet (fC (.bl true))))) fNext)
    (fSeq (fIfS (fB (f1 dIsN (fV 1))) (fRet (f1 dIsN (fV 0))) fNext)
    (fSeq (fIfS (fB (f1 (dIsB true) (fV 1))) (fRet (f1 (dIsB true) (fV 0))) fNext)
    (fSeq (fIfS (fB (f1 (dIsB false) (fV 1))) (fRet (f1 (dIsB false) (fV 0))) fNext)
    (fSeq (fIfS (fTr (f1 (dIsi "str") (fV 1))) (fRet (fBv (fAnd (fB (f1 (dIsi "str") (fV 0))) (fB (f2 dEq (fV 0) (fV 1)))))) fNext)
    (fRet (fBv (fAnd (fB (fOn (chk 1 m_law_whole) (fA (fV 0) fA0))) (fB (f2 dEq (fV 0) (fV 1)))))))))))
def r_law_same : Nat → List D → Res D
  | 0 => fun _ => .er
  | n + 1 => runF 3 .sh (F_law_same (r_law_same n))
def m_law_same : List D → Res D := r_law_same 6
theorem In.mono {L A B : Nat} {q : Rat} (h : In L A q) (hab : A ≤ B) : In L B q := by
  obtain ⟨n, e, hn⟩ := h
  exact ⟨n, e, Nat.le_trans hn hab⟩
theorem In.of {t b : Int} {L : Nat} (k : Nat) (hb : 0 < b) (h0 : 0 < L) (hk : b * k = L) : In L (t.natAbs * k) ((t : Rat) / (b : Rat)) := by
  refine ⟨t * k, ?_, by rw [Int.natAbs_mul, Int.natAbs_natCast]; exact Nat.le_refl _⟩
  have hkn : (k : Int) ≠ 0 := by
    intro h
    rw [h, Int.mul_zero] at hk
    omega
  have h1 : ((k : Int) : Rat) ≠ 0 := by exact_mod_cast hkn
  have h2 : (b : Rat) ≠ 0 := by exact_mod_cast (show b ≠ 0 by omega)
  rw [← hk, Rat.intCast_mul, Rat.intCast_mul]
  generalize ((k : Int) : Rat) = x at *
  generalize (b : Rat) = y at *
  generalize (t : Rat) = z at *
  grind
end Da
namespace Da
open PySem PySem.Spec L2
def lc2Go (g : D → Env → Res Env) (c : Env → Res Bool) (vs1 : List Nat) (it1 : Env → Res (List D)) (g1 : D → Env → Res Env) (c1 : Env → Res Bool) (f : Env → Res D) (ρ : Env) : List D → Res (List D)
  | [] => .ok []
  | x :: xs => match g x ρ with
    | .ok ρ1 => (match c ρ1 with
      | .ok b => if b = true then (match it1 ρ1 with
        | .ok ys => (match lcGo g1 c1 f (wipeD ρ1 vs1) ys with
          | .ok zs => (match lc2Go g c vs1 it1 g1 c1 f ρ xs with
            | .ok ws => .ok (zs ++ ws)
            | _ => .er)
          | _ => .er)
        | _ => .er) else lc2Go g c vs1 it1 g1 c1 f ρ xs
      | _ => .er)
    | _ => .er
def fLc2 (vs : List Nat) (it : Env → Res (List D)) (g : D → Env → Res Env) (c : Env → Res Bool) (vs1 : List Nat) (it1 : Env → Res (List D)) (g1 : D → Env → Res Env) (c1 : Env → Res Bool) (f : Env → Res D) : Env → Res D := fun ρ => (it ρ).bind fun xs => match lc2Go g c vs1 it1 g1 c1 f (wipeD ρ vs) xs with
  | .ok ys => if szOk ys.length = true then .ok (.lst ys) else .er
  | _ => .er
section
variable {K : PySem.W.Frag} {mg : Str → Option Value} {E : WX} {m : Mds} {it it1 : Env → Res (List D)} {g g1 : D → Env → Res Env} {c c1 : Env → Res Bool} {f : Env → Res D} {ts ts1 vs vs1 : List Nat}
/-- the list under way, rest still to come -/
def AcW (K : PySem.W.Frag) (mg : Str → Option Value) (D0 : Addr) (S1 H1 : Hp) (ys rest : List D) (H : Hp) : Prop :=
  ∃ S2 ws ds, Step S1 H1 S2 H ∧ S2 D0 = none ∧ H D0 = some (.lst ws) ∧ RepL K mg S2 ws ds ∧ ys = ds ++ rest
theorem upd_upd {H : Hp} {p : Addr} {o o' : HO} : upd (upd H p o) p o' = upd H p o' := by
  funext a
  by_cases h : a = p
  · subst h; rw [upd_same, upd_same]
  · rw [upd_ne h, upd_ne h, upd_ne h]
theorem upd_self {H : Hp} {p : Addr} {o : HO} (h : H p = some o) : upd H p o = H := by
  funext a
  by_cases e : a = p
  · subst e; rw [upd_same, h]
  · rw [upd_ne e]
theorem Step.swap {S H S' H' : Hp} {p : Addr} {o : HO} (st : Step S H S' H') (hs : S' p = none) : Step S (upd H p o) S' (upd H' p o) := by
  refine ⟨fun b x e => ?_, st.ss, fun b x e => ?_, fun a x => ?_⟩
  · by_cases h : b = p
    · subst h; rw [upd_same] at e ⊢; exact e
    · rw [upd_ne h] at e ⊢; exact st.hh b x e
  · rw [upd_ne (ne_of_none e hs)]
    exact st.sub b x e
  · have h : a ≠ p := fun z => by rw [z] at x; exact x hs
    rw [upd_ne h]
    exact st.new a x
/-- slots beside an object that is written -/
theorem EnvF.aside {m : Mds} {F : Nat → List Addr} {S6 H6 S7 H : Hp} {σ : L2.St} {ρ : Env} {D0 : Addr} {o o7 : HO} (h : EnvF K mg m F S6 H6 σ ρ) (hn : ∀ i d, ρ[i]? = some (some d) → D0 ∉ F i) (st : Step S6 H6 S7 (upd H D0 o)) (h7 : S7 D0 = none) (hD : H D0 = some o7) : EnvF K mg m F S7 H σ ρ := by
  have q := h.step st
  refine ⟨q.len, fun i d e => ?_, q.nd, q.apart⟩
  obtain ⟨v, e1, e2⟩ := q.at_ i d e
  have e3 := e2.other (o := o7) h7 (hn i d e)
  rw [upd_upd, upd_self hD] at e3
  exact ⟨v, e1, e3⟩
/-- slots as of a body before which nothing was but one object, that is none of theirs -/
theorem EnvM.bareX {m : Mds} {S1 H1 S H : Hp} {σ : L2.St} {ρ : Env} {D0 : Addr} {o : HO} (vs : List Nat) (h : EnvM K mg m S1 H1 σ ρ) (hD : H1 D0 = none) (st : Step S1 H1 S H) (hS : S D0 = none) (hH : H D0 = some o) : ∃ F, StF K mg m (fun _ => none) (fun a => if a = D0 then some o else none) S F (L2.wipe σ vs) (wipeD ρ vs) H := by
  obtain ⟨_, F, h⟩ := h
  have hw := h.wipe vs
  refine ⟨F, ⟨fun b x e => ?_, (fun _ _ e => nomatch e), st.sub, fun a x => ?_⟩, hw.step st, fun i d e a ha => ?_⟩
  · have e : (if b = D0 then some o else none) = some x := e
    by_cases hb : b = D0
    · rw [if_pos hb] at e; rw [hb, hH]; exact e
    · rw [if_neg hb] at e; cases e
  · by_cases ha : a = D0
    · rw [ha] at x; exact absurd hS x
    · exact .inr (if_neg ha)
  · obtain ⟨v, _, ow⟩ := hw.at_ i d e
    obtain ⟨_, u, hu⟩ := ow.out ha
    exact if_neg fun z => by rw [z, hD] at hu; cases hu
theorem lc2_ok {σ : L2.St} {H : Hp} {Q : VK} (hts : ∀ t ∈ ts, t ∈ vs) (hts1 : ∀ t ∈ ts1, t ∈ vs1) (h : tE K mg E m .ow (fLc2 vs it g c vs1 it1 g1 c1 f) σ H Q) :
    tLc2 (tI K mg E m it) (tGD K mg m ts g) (tT K mg EF m c) (tI K mg EF m it1) (tGD K mg m ts1 g1) (tT K mg EF m c1) (tE K mg EF m .sh f) vs vs1 σ H Q := by
  obtain ⟨S, ρ, hm, hp⟩ := h
  refine ⟨S, ρ, hm, (Post.bind hp).imp fun xs S1 H1 s1 k J w D0 hD => ?_⟩
  cases eg : lc2Go g c vs1 it1 g1 c1 f (wipeD ρ vs) xs with
  | ex c' fs => rw [eg] at k; exact k.elim
  | er => rw [eg] at k; exact k.elim
  | ok ys =>
    rw [eg] at k
    have k : Post K mg (WE E σ) S1 H1 .ow (if szOk ys.length = true then .ok (.lst ys) else .er) Q := k
    obtain ⟨hz, k⟩ := Post.of_if k
    have hz := szOk_le hz
    refine ⟨fun i n H => n = xs.length - i ∧ i ≤ xs.length ∧ ∃ rest, lc2Go g c vs1 it1 g1 c1 f (wipeD ρ vs) (xs.drop i) = .ok rest ∧ AcW K mg D0 S1 H1 ys rest H, ⟨xs.length, by simp, Nat.zero_le _, ys, eg, S1, [], [], Step.hid s1.sub hD, s1.sub.free hD, upd_same, .nil, rfl⟩, ?_⟩
    rintro i n H2 ⟨rfl, hi, rest, el, S2, ws, ds, st2, hs2, hd2, rv, ey⟩
    by_cases hlt : i < xs.length
    · obtain ⟨hgo, hyl⟩ := w.go i xs[i] S2 H2 (List.getElem?_eq_getElem hlt) st2.ss st2.sub
      refine .inr ⟨hgo, fun H => ∃ rest, lc2Go g c vs1 it1 g1 c1 f (wipeD ρ vs) (xs.drop (i + 1)) = .ok rest ∧ AcW K mg D0 S1 H1 ys rest H, fun H' z => ⟨xs.length - (i + 1), by omega, rfl, hlt, z⟩, fun x H3 y => ?_⟩
      obtain ⟨S3, s3, r3⟩ := hyl x H3 y
      rw [List.drop_eq_getElem_cons hlt] at el
      unfold lc2Go at el
      cases eg1 : g xs[i] (wipeD ρ vs) with
      | ex c' fs => rw [eg1] at el; cases el
      | er => rw [eg1] at el; cases el
      | ok ρ1 =>
        rw [eg1] at el
        simp only at el
        have st3 := st2.trans s3
        obtain ⟨F, stF⟩ := EnvM.bareX vs (hm.step s1) hD st3 (s3.out hs2 hd2) (s3.hh _ _ hd2)
        refine ⟨_, _, S3, F, wipeD ρ vs, xs[i], stF, r3, ?_⟩
        rw [eg1]
        intro σ4 S4 F4 H4 st4 s4 hfr
        refine ⟨wipe_eq (by rw [hfr.1, L2.wipe_length]) hfr.2 hts, S4, ρ1, st4.envM, ?_⟩
        cases ec : c ρ1 with
        | ex c' fs => rw [ec] at el; cases el
        | er => rw [ec] at el; cases el
        | ok b =>
          rw [ec] at el
          simp only at el
          intro S5 H5 s5
          have a5 := (s3.trans s4).trans s5
          have em5 := (st4.envM).step s5
          cases b with
          | false =>
            rw [if_neg (by decide)] at el
            show ∃ rest, lc2Go g c vs1 it1 g1 c1 f (wipeD ρ vs) (xs.drop (i + 1)) = .ok rest ∧ AcW K mg D0 S1 H1 ys rest H5
            exact ⟨rest, el, S5, ws, ds, st2.trans a5, a5.out hs2 hd2, a5.hh _ _ hd2, rv.mono a5.ss, ey⟩
          | true =>
            rw [if_pos rfl] at el
            show tI K mg EF m it1 σ4 H5 _
            refine ⟨S5, ρ1, em5, ?_⟩
            cases ei : it1 ρ1 with
            | ex c' fs => rw [ei] at el; cases el
            | er => rw [ei] at el; cases el
            | ok ys1 =>
              rw [ei] at el
              simp only at el
              cases ez : lcGo g1 c1 f (wipeD ρ1 vs1) ys1 with
              | ex c' fs => rw [ez] at el; cases el
              | er => rw [ez] at el; cases el
              | ok zs =>
                rw [ez] at el
                simp only at el
                cases ew : lc2Go g c vs1 it1 g1 c1 f (wipeD ρ vs) (xs.drop (i + 1)) with
                | ex c' fs => rw [ew] at el; cases el
                | er => rw [ew] at el; cases el
                | ok us =>
                  rw [ew] at el
                  cases el
                  intro S6 H6 s6 J1 w1
                  have a6 := a5.trans s6
                  have em6 := em5.step s6
                  refine ⟨fun j n H => n = ys1.length - j ∧ j ≤ ys1.length ∧ ∃ rest1 S7 ws7 ds7, lcGo g1 c1 f (wipeD ρ1 vs1) (ys1.drop j) = .ok rest1 ∧ Step S6 H6 S7 (upd H D0 (.lst ws)) ∧ Step S1 H1 S7 H ∧ S7 D0 = none ∧ H D0 = some (.lst ws7) ∧ RepL K mg S7 ws7 ds7 ∧ ys = ds7 ++ (rest1 ++ us), ⟨ys1.length, by simp, Nat.zero_le _, zs, S6, ws, ds, ez, ?_, st2.trans a6, a6.out hs2 hd2, a6.hh _ _ hd2, rv.mono a6.ss, ey⟩, ?_⟩
                  · rw [upd_self (a6.hh _ _ hd2)]
                    exact Step.refl s6.sub
                  rintro j n7 H7 ⟨rfl, hj, rest1, S7, ws7, ds7, el1, t7, u7, hs7, hd7, rv7, ey7⟩
                  by_cases hlt1 : j < ys1.length
                  · obtain ⟨hgo1, hyl1⟩ := w1.go j ys1[j] S7 H7 (List.getElem?_eq_getElem hlt1) t7.ss u7.sub
                    refine .inr ⟨hgo1, fun H => ∃ rest1 S7 ws7 ds7, lcGo g1 c1 f (wipeD ρ1 vs1) (ys1.drop (j + 1)) = .ok rest1 ∧ Step S6 H6 S7 (upd H D0 (.lst ws)) ∧ Step S1 H1 S7 H ∧ S7 D0 = none ∧ H D0 = some (.lst ws7) ∧ RepL K mg S7 ws7 ds7 ∧ ys = ds7 ++ (rest1 ++ us), fun H' z => ⟨ys1.length - (j + 1), by omega, rfl, hlt1, z⟩, fun x1 H8 y1 => ?_⟩
                    obtain ⟨S8, s8, r8⟩ := hyl1 x1 H8 y1
                    have nD : ∀ i d, ρ1[i]? = some (some d) → D0 ∉ F4 i := fun i d e z => by
                      have := st4.2.2 i d e D0 z
                      have : (if D0 = D0 then some (HO.lst ws) else none) = none := this
                      rw [if_pos rfl] at this
                      cases this
                    have e6 := (st4.2.1.step s5).step s6
                    have e7 := e6.aside nD t7 hs7 hd7
                    have em8 : EnvM K mg m S8 H8 σ4 ρ1 := ⟨s8.sub, F4, e7.step s8⟩
                    obtain ⟨F8, st8⟩ := (em8.wipe vs1).bare
                    rw [List.drop_eq_getElem_cons hlt1] at el1
                    unfold lcGo at el1
                    cases eg2 : g1 ys1[j] (wipeD ρ1 vs1) with
                    | ex c' fs => rw [eg2] at el1; cases el1
                    | er => rw [eg2] at el1; cases el1
                    | ok ρ2 =>
                      rw [eg2] at el1
                      simp only at el1
                      refine ⟨_, _, S8, F8, wipeD ρ1 vs1, ys1[j], st8, r8, ?_⟩
                      rw [eg2]
                      intro σ9 S9 F9 H9 st9 s9 hfr9
                      refine ⟨wipe_eq (by rw [hfr9.1, L2.wipe_length]) hfr9.2 hts1, S9, ρ2, st9.envM, ?_⟩
                      cases ec1 : c1 ρ2 with
                      | ex c' fs => rw [ec1] at el1; cases el1
                      | er => rw [ec1] at el1; cases el1
                      | ok b1 =>
                        rw [ec1] at el1
                        simp only at el1
                        intro S10 H10 s10
                        have a10 := (s8.trans s9).trans s10
                        cases b1 with
                        | false =>
                          rw [if_neg (by decide)] at el1
                          exact ⟨rest1, S10, ws7, ds7, el1, t7.trans (a10.swap (a10.out hs7 hd7)), u7.trans a10, a10.out hs7 hd7, a10.hh _ _ hd7, rv7.mono a10.ss, ey7⟩
                        | true =>
                          rw [if_pos rfl] at el1
                          show tE K mg EF m Md.sh f σ9 H10 _
                          refine ⟨S10, ρ2, (st9.envM).step s10, ?_⟩
                          cases ef : f ρ2 with
                          | ex c' fs => rw [ef] at el1; cases el1
                          | er => rw [ef] at el1; cases el1
                          | ok z' =>
                            rw [ef] at el1
                            simp only at el1
                            intro v S11 H11 fp s11 o _ _
                            have a11 := a10.trans s11
                            cases er : lcGo g1 c1 f (wipeD ρ1 vs1) (ys1.drop (j + 1)) with
                            | ex c' fs => rw [er] at el1; cases el1
                            | er => rw [er] at el1; cases el1
                            | ok rest2 =>
                              rw [er] at el1
                              cases el1
                              have hl7 := rv7.len
                              have hly : ys.length = ds7.length + (1 + rest2.length + us.length) := by rw [ey7]; simp; omega
                              refine ⟨ws7, a11.hh _ _ hd7, by rw [hl7, sizeLine_eq]; omega, rest2, S11, ws7 ++ [v], ds7 ++ [z'], rfl, ?_, (u7.trans a11).write (a11.out hs7 hd7) hD, a11.out hs7 hd7, upd_same, (rv7.mono a11.ss).snoc o.1, by rw [ey7]; simp⟩
                              rw [upd_upd]
                              exact t7.trans (a11.swap (a11.out hs7 hd7))
                  · have e : j = ys1.length := by omega
                    subst e
                    rw [List.drop_length] at el1
                    cases el1
                    refine .inl ⟨w1.stop S7 H7 t7.ss u7.sub, us, rfl, S7, ws7, ds7, u7, hs7, hd7, rv7, by rw [ey7]; simp⟩
    · have e : i = xs.length := by omega
      subst e
      rw [List.drop_length] at el
      cases el
      rw [List.append_nil] at ey
      subst ey
      exact .inl ⟨w.stop S2 H2 st2.ss st2.sub, k _ S2 H2 [D0] st2 ⟨D0, ws, _, rfl, rfl, rfl, hs2, hd2, rv⟩ (by simp) (fun a z => by
        have : a = D0 := by simpa using z
        rw [this]; exact hD)⟩
end
section
variable {X : Cx} {E : WX} {L : Lp} {m : Mds} {ts ts1 : List Nat} {N0 ps0 : List Str} {sc0 scO : Scope} {elt tg iter tg1 iter1 : Expr} {ifs ifs1 : List Expr} {scope : Scope} {pos : Pos} {it it1 : Env → Res (List D)} {g g1 : D → Env → Res Env} {c c1 : Env → Res Bool} {f : Env → Res D}
theorem je_lc2 (Sc : FnScope N0 ps0 sc0) (own : List (Str × Nat)) (vs1 : List Nat) (hi : JI X E m tg iter it)
    (hg : ∀ (s : Shared) (H : Hp) (C : Addr) (cl : List (Str × Addr)) (fp : List Addr), JG (X.blk s H scope (compEnvC scope cl C X.env) fp) m ts tg g) (ht : ∀ (s : Shared) (H : Hp) (C : Addr) (cl : List (Str × Addr)) (fp : List Addr), JTs (X.blk s H scope (compEnvC scope cl C X.env) fp) EF m ifs c)
    (hi1 : ∀ (s : Shared) (H : Hp) (C : Addr) (cl : List (Str × Addr)) (fp : List Addr), JI (X.blk s H scope (compEnvC scope cl C X.env) fp) EF m tg1 iter1 it1) (hg1 : ∀ (s : Shared) (H : Hp) (C : Addr) (cl : List (Str × Addr)) (fp : List Addr), JG (X.blk s H scope (compEnvC scope cl C X.env) fp) m ts1 tg1 g1) (ht1 : ∀ (s : Shared) (H : Hp) (C : Addr) (cl : List (Str × Addr)) (fp : List Addr), JTs (X.blk s H scope (compEnvC scope cl C X.env) fp) EF m ifs1 c1)
    (he : ∀ (s : Shared) (H : Hp) (C : Addr) (cl : List (Str × Addr)) (fp : List Addr), JE (X.blk s H scope (compEnvC scope cl C X.env) fp) EF m .sh elt f) (hc : X.calm = true := by rfl) (hN0 : X.N = N0 := by rfl) (hsc : X.env.scope = sc0 := by rfl) (ok : blkC N0 (sc0) scope own = true := by decide +kernel) (hts : ∀ t ∈ ts, t ∈ own.map (·.2) := by decide) (hts1 : ∀ t ∈ ts1, t ∈ vs1 := by decide) (hv : ∀ i ∈ vs1, i ∈ own.map (·.2) := by decide)
    (hs : ∀ x, foldedSetIterable iter X.env x = pure x := by intro _; rfl) (hs1 : ∀ env x, foldedSetIterable iter1 env x = pure x := by intro _ _; rfl) : JE X E m .ow (.ListComp elt [⟨tg, iter, ifs, 0⟩, ⟨tg1, iter1, ifs1, 0⟩] scope pos) (fLc2 (own.map (·.2)) it g c vs1 it1 g1 c1 f) :=
  ⟨PEimp (pe_lc2 (g := tGD X.K X.mg m ts g) (tt := tT X.K X.mg EF m c) (wi1 := tI X.K X.mg EF m it1) (g1 := tGD X.K X.mg m ts1 g1) (tt1 := tT X.K X.mg EF m c1) (te := tE X.K X.mg EF m .sh f) hc (by rw [hN0]; exact Sc.nd) hi.pi (blkOk_by (by rw [hN0, hsc]; exact ok)) hv (fun s H C cl fp => (hg s H C cl fp).pg) (fun s H C cl fp => (ht s H C cl fp).pt) (fun s H C cl fp => (hi1 s H C cl fp).pi) (fun s H C cl fp => (hg1 s H C cl fp).pg) (fun s H C cl fp => (ht1 s H C cl fp).pt) (fun s H C cl fp => (he s H C cl fp).pe) hs hs1) fun σ H Q h => lc2_ok hts hts1 h⟩
end
end Da
namespace Da
open PySem PySem.Spec L2
section
variable {X : Cx} {E : WX} {L : Lp} {m : Mds} {e j : Expr} {f fj : Env → Res D} {x : Str} {pos p1 p2 : Pos} {k : Nat}
/-- what slot i owns is written -/
theorem StF.writeG {K : PySem.W.Frag} {mg : Str → Option Value} {S0 H0 S H : Hp} {Fp : Nat → List Addr} {σ : L2.St} {ρ : Env} {i : Nat} {d0 d1 : D} {v : V} {p : Addr} {o : HO} (st : StF K mg m S0 H0 S Fp σ ρ H) (hρ : ρ[i]? = some (some d0)) (hp : Fp i = [p]) (hσ : σ[i]? = some (some v)) (sp : S p = none)
    (ow : OwnAt K mg S (upd H p o) [p] v d1 (mdAt m i)) : StF K mg m S0 H0 S Fp σ (ρ.set i (some d1)) (upd H p o) := by
  obtain ⟨s, en, nw⟩ := st
  have hil : i < ρ.length := (List.getElem?_eq_some_iff.mp hρ).1
  have h0 : H0 p = none := nw i _ hρ p (by rw [hp]; exact List.mem_cons_self)
  have key : ∀ j d', (ρ.set i (some d1))[j]? = some (some d') → (j = i ∧ d' = d1) ∨ (j ≠ i ∧ ρ[j]? = some (some d')) := fun j d' ej => by
    by_cases hj : j = i
    · subst hj
      rw [List.getElem?_set_self hil] at ej
      injection ej with z; injection z with z
      exact .inl ⟨rfl, z.symm⟩
    · rw [List.getElem?_set_ne (Ne.symm hj)] at ej
      exact .inr ⟨hj, ej⟩
  have same : ∀ {B : Hp}, Same B H → B p = none → Same B (upd H p o) := fun hB hb a u ea => by
    rw [upd_ne (ne_of_none ea hb)]
    exact hB a u ea
  have live : ∀ j d', (ρ.set i (some d1))[j]? = some (some d') → ∃ d'', ρ[j]? = some (some d'') := fun j d' ej => by
    rcases key j d' ej with ⟨rfl, _⟩ | ⟨_, ej'⟩
    · exact ⟨_, hρ⟩
    · exact ⟨_, ej'⟩
  refine ⟨⟨same s.hh h0, s.ss, same s.sub sp, s.new⟩, ⟨by rw [List.length_set]; exact en.len, fun j d' ej => ?_, fun j d' ej => ?_, fun j k a b hjk e1 e2 => ?_⟩, fun j d' ej => ?_⟩
  · rcases key j d' ej with ⟨rfl, rfl⟩ | ⟨hj, ej'⟩
    · exact ⟨v, hσ, by rw [hp]; exact ow⟩
    · obtain ⟨w, e1, o1⟩ := en.at_ j d' ej'
      exact ⟨w, e1, o1.other sp fun z => en.apart i j _ d' (Ne.symm hj) hρ ej' p (by rw [hp]; exact List.mem_cons_self) z⟩
  · obtain ⟨d'', h⟩ := live j d' ej
    exact en.nd j d'' h
  · obtain ⟨a', h1⟩ := live j a e1
    obtain ⟨b', h2⟩ := live k b e2
    exact en.apart j k a' b' hjk h1 h2
  · obtain ⟨d'', h⟩ := live j d' ej
    exact nw j d'' h
end
end Da
namespace Da
open PySem PySem.Spec L2
section
variable {X : Cx} {E : WX} {L : Lp} {m : Mds} {ts : List Nat} {N0 ps0 : List Str} {sc0 : Scope} {elt tg iter e j : Expr} {ifs : List Expr} {scope : Scope} {pos p1 p2 p3 p4 : Pos} {it : Env → Res (List D)} {g : D → Env → Res Env} {c : Env → Res Bool} {f fj : Env → Res D} {x : Str}
/-- x[j].append(e) of an own list of own lists -/
def fApp2 (i : Nat) (fj fe : Env → Res D) : FS := fun ρ => match ρ[i]? with
  | some (some (.lst xs)) => lift (fj ρ) ρ fun y => match y with
    | .int z => (match ixN xs.length z with
      | some k => (match xs[k]? with
        | some (.lst us) => lift (fe ρ) ρ fun d => if szOk (us.length + 1) = true then .ok (.nx (ρ.set i (some (.lst (xs.set k (.lst (us ++ [d]))))))) else .er
        | _ => .er)
      | none => .er)
    | _ => .er
  | _ => .er
end
end Da
namespace Da
open PySem PySem.Spec L2
end Da
namespace Da
open PySem PySem.Spec L2
end Da
namespace Da
open PySem PySem.Spec L2
def Rf {α β : Type} (m : Res β) (r : Res α) (e : α → β) : Prop := match r with
  | .ok v => m = .ok (e v)
  | .ex c fs => m = .ex c fs
  | .er => True
section
variable {α β γ δ : Type} {m : Res β} {r : Res α} {e : α → β} {k : β → Res δ} {h : α → Res γ} {o : γ → δ} {v : α}
theorem rf_ok (h : m = .ok (e v)) : Rf m (.ok v) e := h
theorem rf_id : Rf m m (fun x => x) := by cases m <;> first | exact rfl | exact trivial
theorem b_p {d : β} {r : Res γ} (hm : m = .ok d) (hk : Rf (k d) r o) : Rf (m.bind k) r o := by rw [hm]; exact hk
theorem b_i (hm : Rf m r e) (hk : ∀ x, Rf (k (e x)) (h x) o) : Rf (m.bind k) (r.bind h) o := by
  cases r with
  | ok v => rw [show m = _ from hm]; exact hk v
  | ex c fs => rw [show m = _ from hm]; exact rfl
  | er => exact trivial
/-- the same, told by another -/
theorem rf_co {α' : Type} {e' : α' → β} (c : α → α') (hm : Rf m r e) (he : ∀ x, e x = e' (c x)) : Rf m (r.bind fun x => .ok (c x)) e' := by
  cases r with
  | ok v => exact (show m = _ from hm).trans (congrArg _ (he v))
  | ex c fs => exact hm
  | er => exact trivial
/-- without exceptions -/
def nx {α : Type} (r : Res α) : Res α := match r with
  | .ok v => .ok v
  | _ => .er
@[simp] theorem nx_ok {α : Type} {v : α} : nx (.ok v) = .ok v := rfl
theorem rf_use {v : α} (hm : Rf m r e) (hr : r = .ok v) : m = .ok (e v) := by rw [hr] at hm; exact hm
end
section
variable {α γ δ : Type} {ρ : Env} {fa : Env → Res D} {fs : Env → Res (List D)} {k : List D → Res δ} {o : γ → δ}
theorem a_0 {r : Res γ} (h : Rf (k []) r o) : Rf ((fA0 ρ).bind k) r o := h
theorem a_p {d : D} {r : Res γ} (ha : fa ρ = .ok d) (h : Rf ((fs ρ).bind fun xs => k (d :: xs)) r o) : Rf ((fA fa fs ρ).bind k) r o := by
  show Rf (((fa ρ).bind _).bind k) r o
  rw [ha]
  show Rf (((fs ρ).bind fun xs => .ok (d :: xs)).bind k) r o
  revert h
  cases fs ρ <;> exact id
theorem a_i {ra : Res α} {ea : α → D} {h : α → Res γ} (ha : Rf (fa ρ) ra ea) (hk : ∀ x, Rf ((fs ρ).bind fun xs => k (ea x :: xs)) (h x) o) : Rf ((fA fa fs ρ).bind k) (ra.bind h) o := by
  cases ra with
  | ok v => exact a_p ha (hk v)
  | ex c fs' =>
    show ((fa ρ).bind _).bind k = _
    rw [show fa ρ = _ from ha]
    rfl
  | er => exact trivial
end
section
variable {ρ : Env} {fa fb f : Env → Res D} {g : D → Res D} {g2 : D → D → Res D} {c ca cb : Env → Res Bool} {x y z : D} {a b : Bool}
theorem ev1 (ha : fa ρ = .ok x) (hg : g x = .ok z) : f1 g fa ρ = .ok z := by unfold f1; rw [ha]; exact hg
theorem ev2 (ha : fa ρ = .ok x) (hb : fb ρ = .ok y) (hg : g2 x y = .ok z) : f2 g2 fa fb ρ = .ok z := by unfold f2; rw [ha]; show (fb ρ).bind _ = _; rw [hb]; exact hg
theorem evB (ha : f ρ = .ok (.bl a)) : fB f ρ = .ok a := by unfold fB; rw [ha]; rfl
theorem evBv (ha : c ρ = .ok a) : fBv c ρ = .ok (.bl a) := by unfold fBv; rw [ha]; rfl
theorem evTr (ha : f ρ = .ok x) (ht : trD x = .ok a) : fTr f ρ = .ok a := by unfold fTr; rw [ha]; exact ht
theorem evNot (ha : c ρ = .ok a) : fNot c ρ = .ok (!a) := by unfold fNot; rw [ha]; rfl
theorem evOr (ha : ca ρ = .ok a) (hb : cb ρ = .ok b) : fOr ca cb ρ = .ok (a || b) := by unfold fOr; rw [ha]; cases a <;> first | rfl | exact hb
theorem evAndT (ha : ca ρ = .ok true) (hb : cb ρ = .ok b) : fAnd ca cb ρ = .ok b := by unfold fAnd; rw [ha]; exact hb
theorem evOrT (ha : ca ρ = .ok true) : fOr ca cb ρ = .ok true := by unfold fOr; rw [ha]; rfl
theorem evOrF (ha : ca ρ = .ok false) (hb : cb ρ = .ok b) : fOr ca cb ρ = .ok b := by unfold fOr; rw [ha]; exact hb
theorem evSc (h : f ρ = .ok x) (hs : isSc x = true) : fSc f ρ = .ok x := by unfold fSc; rw [h]; show (if isSc x = true then _ else _) = _; rw [hs]; rfl
theorem evNx {α : Type} {f : Env → Res α} {x : α} (h : f ρ = .ok x) : fNx f ρ = .ok x := by unfold fNx; rw [h]
theorem evA {fs : Env → Res (List D)} {xs : List D} (ha : fa ρ = .ok x) (hs : fs ρ = .ok xs) : fA fa fs ρ = .ok (x :: xs) := by unfold fA; rw [ha]; show (fs ρ).bind _ = _; rw [hs]; rfl
theorem evOn {fs : Env → Res (List D)} {xs : List D} {g : List D → Res D} (ha : fs ρ = .ok xs) (hg : g xs = .ok z) : fOn g fs ρ = .ok z := by unfold fOn; rw [ha]; exact hg
theorem evL {xs : List D} (ha : f ρ = .ok x) (hx : asL x = .ok xs) : fL f ρ = .ok xs := by unfold fL; rw [ha]; exact hx
variable {α γ : Type} {o : γ → D} {oB : γ → Bool} {ra : Res α} {ea : α → D}
theorem rAnd {rb : Res Bool} (ha : ca ρ = .ok a) (hb : Rf (cb ρ) rb (fun x => x)) : Rf (fAnd ca cb ρ) (if a = true then rb else .ok false) (fun x => x) := by
  unfold fAnd; rw [ha]; cases a with
  | true => exact hb
  | false => exact rfl
theorem rOr {rb : Res Bool} (ha : ca ρ = .ok a) (hb : Rf (cb ρ) rb (fun x => x)) : Rf (fOr ca cb ρ) (if a = true then .ok true else rb) (fun x => x) := by
  unfold fOr; rw [ha]; cases a with
  | true => exact rfl
  | false => exact hb
theorem rAndI {ra rb : Res Bool} (ha : Rf (ca ρ) ra (fun x => x)) (hb : Rf (cb ρ) rb (fun x => x)) : Rf (fAnd ca cb ρ) (ra.bind fun a => if a = true then rb else .ok false) (fun x => x) := b_i ha fun a => by
  cases a with
  | true => exact hb
  | false => exact rfl
theorem rSc (h : Rf (f ρ) ra ea) (hs : ∀ x, isSc (ea x) = true) : Rf (fSc f ρ) (nx ra) ea := by
  cases ra with
  | ok v => exact evSc h (hs v)
  | _ => exact trivial
theorem rNx {α : Type} {β : Type} {f : Env → Res β} {ra : Res α} {ea : α → β} (h : Rf (f ρ) ra ea) : Rf (fNx f ρ) (nx ra) ea := by
  cases ra with
  | ok v => exact evNx h
  | _ => exact trivial
end
def eL {α : Type} (e : α → D) : List α → D := fun xs => .lst (xs.map e)
def eT {α : Type} (e : α → D) : List α → D := fun xs => .tup (xs.map e)
def eF {α : Type} (e : α → D) : List α → D := fun xs => .frl (xs.map e)
def eO {α : Type} (e : α → D) : Option α → D := fun x => match x with
  | none => .non
  | some v => e v
def eN : Unit → D := fun _ => .non
def eP1 {α : Type} (e : α → D) : α → D := fun p => .tup [e p]
def eP2 {α β : Type} (e : α → D) (f : β → D) : α × β → D := fun p => .tup [e p.1, f p.2]
def eP3 {α β γ : Type} (e : α → D) (f : β → D) (g : γ → D) : α × β × γ → D := fun p => .tup [e p.1, f p.2.1, g p.2.2]
def eP4 {α β γ δ : Type} (e : α → D) (f : β → D) (g : γ → D) (h : δ → D) : α × β × γ × δ → D := fun p => .tup [e p.1, f p.2.1, g p.2.2.1, h p.2.2.2]
def eH2 {α β : Type} (e : α → D) (f : β → D) : α × β → D := fun p => .lst [e p.1, f p.2]
def eH3 {α β γ : Type} (e : α → D) (f : β → D) (g : γ → D) : α × β × γ → D := fun p => .lst [e p.1, f p.2.1, g p.2.2]
def eH4 {α β γ δ : Type} (e : α → D) (f : β → D) (g : γ → D) (h : δ → D) : α × β × γ × δ → D := fun p => .lst [e p.1, f p.2.1, g p.2.2.1, h p.2.2.2]
/-- own objects: by their fields' encoders -/
def eOb1 {α : Type} (c : Str) (n1 : Str) (e : α → D) : α → D := fun p => .obj c [n1] [e p]
def eOb2 {α β : Type} (c : Str) (n1 n2 : Str) (e : α → D) (f : β → D) : α × β → D := fun p => .obj c [n1, n2] [e p.1, f p.2]
def eOb3 {α β γ : Type} (c : Str) (n1 n2 n3 : Str) (e : α → D) (f : β → D) (g : γ → D) : α × β × γ → D := fun p => .obj c [n1, n2, n3] [e p.1, f p.2.1, g p.2.2]
def eOb4 {α β γ δ : Type} (c : Str) (n1 n2 n3 n4 : Str) (e : α → D) (f : β → D) (g : γ → D) (h : δ → D) : α × β × γ × δ → D := fun p => .obj c [n1, n2, n3, n4] [e p.1, f p.2.1, g p.2.2.1, h p.2.2.2]
def mulR (i j : Int) : Res Int := if mulOk i j = true then .ok (i * j) else .er
def divR (i j : Int) : Res Int := if 0 < j ∧ j.natAbs.log2 < 9000 then .ok (i / j) else if j < 0 ∧ j.natAbs.log2 < 9000 then .ok (-i / -j) else .er
def modR (i j : Int) : Res Int := if 0 < j then .ok (i % j) else .er
def powR (i j : Int) : Res Int := if powOk i j = true then .ok (i ^ j.toNat) else .er
def ixR {α : Type} (xs : List α) (i : Int) : Res α := match atI xs i with
  | some x => .ok x
  | none => .er
def catR {α : Type} (xs ys : List α) : Res (List α) := if szOk (xs.length + ys.length) = true then .ok (xs ++ ys) else .er
def appR {α : Type} (xs : List α) (x : α) : Res (List α) := if szOk (xs.length + 1) = true then .ok (xs ++ [x]) else .er
def repR {α : Type} (xs : List α) (k : Int) : Res (List α) := if repOk xs.length k = true then .ok (List.replicate k.toNat xs).flatten else .er
def setR {α : Type} (xs : List α) (i : Int) (x : α) : Res (List α) := match ixN xs.length i with
  | some k => .ok (xs.set k x)
  | none => .er
def popR {α : Type} (xs : List α) (i : Int) : Res (α × List α) := match ixN xs.length i with
  | some k => (match xs[k]? with
    | some y => if szOk xs.length = true then .ok (y, xs.eraseIdx k) else .er
    | none => .er)
  | none => .er
def pop0R {α : Type} (xs : List α) : Res (α × List α) := match xs[xs.length - 1]? with
  | some y => .ok (y, xs.dropLast)
  | none => .er
def app2R {α : Type} (xs : List (List α)) (i : Int) (x : α) : Res (List (List α)) := match ixN xs.length i with
  | some k => (match xs[k]? with
    | some us => if szOk (us.length + 1) = true then .ok (xs.set k (us ++ [x])) else .er
    | none => .er)
  | none => .er
def rngI (lo : Int) (n : Nat) : List Int := (List.range n).map fun (i : Nat) => lo + (i : Int)
def rngR (j : Int) : Res (List Int) := if rngOk 0 j = true then .ok (rngI 0 j.toNat) else .er
def rng2R (i j : Int) : Res (List Int) := if rngOk i j = true then .ok (rngI i (j - i).toNat) else .er
def rngLR (j : Int) : Res (List Int) := if rgnOk 0 j = true then .ok (rngI 0 j.toNat) else .er
def enumI {α : Type} (i : Nat) : List α → List (Int × α)
  | [] => []
  | x :: xs => ((i : Int), x) :: enumI (i + 1) xs
def cutN {α : Type} (xs : List α) (lo hi : Option Int) : List α := (xs.drop (HT.sIx xs.length 0 lo)).take (HT.sIx xs.length xs.length hi - HT.sIx xs.length 0 lo)
/-- comprehensions -/
def lcR {α β : Type} (xs : List α) (c : α → Res Bool) (f : α → Res β) : Res (List β) := if szOk xs.length = true then go xs else .er
where go : List α → Res (List β)
  | [] => .ok []
  | x :: xs => (nx (c x)).bind fun b => if b = true then (nx (f x)).bind fun y => (go xs).bind fun ys => .ok (y :: ys) else go xs
def lc2R {α β γ : Type} (xs : List α) (c : α → Res Bool) (i1 : α → Res (List β)) (c1 : α → β → Res Bool) (f : α → β → Res γ) : Res (List γ) := (go xs).bind fun ys => if szOk ys.length = true then .ok ys else .er
where go : List α → Res (List γ)
  | [] => .ok []
  | x :: xs => (nx (c x)).bind fun b => if b = true then (nx (i1 x)).bind fun ys => (lcR.go (c1 x) (f x) ys).bind fun zs => (go xs).bind fun ws => .ok (zs ++ ws) else go xs
/-- loops -/
inductive Ctl (σ β : Type) where
  | go (s : σ) | out (s : σ) | ret (b : β)
def forR {α σ : Type} (f : σ → α → Res σ) : List α → σ → Res σ
  | [], s => .ok s
  | x :: xs, s => (f s x).bind fun s => forR f xs s
/-- with breaks and returns -/
def forC {α σ β : Type} (f : σ → α → Res (Ctl σ β)) : List α → σ → Res (Ctl σ β)
  | [], s => .ok (.go s)
  | x :: xs, s => (f s x).bind fun o => match o with
    | .go s => forC f xs s
    | .out s => .ok (.go s)
    | .ret b => .ok (.ret b)
def whileC {σ β : Type} (c : σ → Res Bool) (f : σ → Res (Ctl σ β)) : Nat → σ → Res (Ctl σ β)
  | 0, _ => .er
  | n + 1, s => (c s).bind fun b => if b = true then (f s).bind fun o => (match o with
    | .go s => whileC c f n s
    | .out s => .ok (.go s)
    | .ret b => .ok (.ret b)) else .ok (.go s)
/-- a loop's end without a return -/
def ctlS {σ β : Type} (o : Ctl σ β) : Res σ := match o with
  | .go s => .ok s
  | .out s => .ok s
  | .ret _ => .er
structure Fin {δ : Type} (K : Res Fl → Res δ) : Prop where
  xc : ∀ c fs ρ, K (.ok (.xc c fs ρ)) = .ex c fs
/-- the slots vs forgotten -/
def fgt (vs : List Nat) (m : Res Fl) : Res Fl := match m with
  | .ok (.nx ρ) => .ok (.nx (wipeD ρ vs))
  | .ok (.bk ρ) => .ok (.bk (wipeD ρ vs))
  | .ok (.ct ρ) => .ok (.ct (wipeD ρ vs))
  | m => m
def fFgt (vs : List Nat) (F : FS) : FS := fun ρ => fgt vs (F ρ)
def finS (vs : List Nat) (m : Res Fl) : Res Fl := match m with
  | .ok (.nx ρ) => .ok (.nx (wipeD ρ vs))
  | .ok (.xc c fs _) => .ex c fs
  | _ => .er
def finL (vs : List Nat) (m : Res Fl) : Res Fl := match m with
  | .ok (.nx ρ) => .ok (.nx (wipeD ρ vs))
  | .ok (.ct ρ) => .ok (.nx (wipeD ρ vs))
  | .ok (.bk ρ) => .ok (.bk (wipeD ρ vs))
  | .ok (.rt d) => .ok (.rt d)
  | .ok (.xc c fs _) => .ex c fs
  | _ => .er
def finF (md : Md) (m : Res Fl) : Res D := match m with
  | .ok (.rt d) => .ok d
  | .ok (.nx _) => if md = .sh then .ok .non else .er
  | .ok (.xc c fs _) => .ex c fs
  | _ => .er
def finI (m : Res Fl) : Res D := match m with
  | .ok (.nx ρ) => (match ρ[0]? with
    | some (some d) => .ok d
    | _ => .er)
  | .ok (.xc c fs _) => .ex c fs
  | _ => .er
theorem fin_S {vs : List Nat} : Fin (finS vs) := ⟨fun _ _ _ => rfl⟩
theorem fin_L {vs : List Nat} : Fin (finL vs) := ⟨fun _ _ _ => rfl⟩
theorem fin_F {md : Md} : Fin (finF md) := ⟨fun _ _ _ => rfl⟩
theorem fin_I : Fin finI := ⟨fun _ _ _ => rfl⟩
section
variable {α β γ δ σ : Type} {K : Res Fl → Res δ} {F G A B C : FS} {ρ ρ' : Env} {N N1 N2 : Res γ} {o : γ → δ} {r : Res α} {E : α → Env} {k : α → Res γ} {c : Env → Res Bool} {b : Bool} {f : Env → Res D} {e : α → D} {v : α} {d : D} {i : Nat}
theorem n_runF {n : Nat} {md : Md} {ds : List D} {e : γ → D} (h : Rf (finF md (F (startE n ds))) N e) : Rf (runF n md F ds) N e := h
theorem n_runI {n : Nat} {cn : Str} {ds : List D} {e : γ → D} (h : Rf (finI (F (some (.obj cn [] []) :: (ds.map some ++ List.replicate (n - 1 - ds.length) none)))) N e) : Rf (runI n cn F ds) N e := h
theorem finS_nx {vs : List Nat} {m : Res Fl} {ρ : Env} (h : finS vs m = .ok (.nx ρ)) : ∃ ρ1, m = .ok (.nx ρ1) ∧ wipeD ρ1 vs = ρ := by
  unfold finS at h
  split at h
  · cases h; exact ⟨_, rfl, rfl⟩
  · cases h
  · cases h
theorem finS_ex {vs : List Nat} {m : Res Fl} {c : Str} {fs : List (Str × D)} (h : finS vs m = .ex c fs) : ∃ ρ1, m = .ok (.xc c fs ρ1) := by
  unfold finS at h
  split at h
  · cases h
  · cases h; exact ⟨_, rfl⟩
  · cases h
theorem t_seq (hK : Fin K) (E : α → Env) (h : Rf (finS [] (F ρ)) r (fun s => .nx (E s))) (hk : ∀ s, Rf (K (G (E s))) (k s) o) : Rf (K (fSeq F G ρ)) (r.bind k) o := by
  cases r with
  | ok s =>
    obtain ⟨ρ1, e1, e2⟩ := finS_nx h
    have e2 : ρ1 = E s := e2
    subst e2
    rw [fSeq_nx e1]
    exact hk s
  | ex c fs =>
    obtain ⟨ρ1, e1⟩ := finS_ex h
    have : fSeq F G ρ = .ok (.xc c fs ρ1) := by unfold fSeq; rw [e1]
    rw [this, hK.xc]
    exact rfl
  | er => exact trivial
theorem t_seqp (ρ' : Env) (h : F ρ = .ok (.nx ρ')) (hk : Rf (K (G ρ')) N o) : Rf (K (fSeq F G ρ)) N o := by rw [fSeq_nx h]; exact hk
theorem t_end (h : Rf (K (fSeq F fNext ρ)) N o) : Rf (K (F ρ)) N o := by
  have : fSeq F fNext ρ = F ρ := by
    unfold fSeq
    split
    · rename_i e; rw [e]; rfl
    · rfl
  rw [this] at h
  exact h
theorem t_assoc (h : Rf (K (fSeq A (fSeq B C) ρ)) N o) : Rf (K (fSeq (fSeq A B) C ρ)) N o := by
  have : fSeq A (fSeq B C) ρ = fSeq (fSeq A B) C ρ := by
    show andThen (A ρ) (fSeq B C) = andThen (andThen (A ρ) B) C
    cases A ρ with
    | ok x => cases x <;> rfl
    | _ => rfl
  rw [this] at h
  exact h
theorem t_nextS (h : Rf (K (G ρ)) N o) : Rf (K (fSeq fNext G ρ)) N o := h
theorem t_next {v : γ} (h : K (.ok (.nx ρ)) = .ok (o v)) : Rf (K (fNext ρ)) (.ok v) o := h
theorem t_brk {v : γ} (h : K (.ok (.bk ρ)) = .ok (o v)) : Rf (K (fSeq fBrk G ρ)) (.ok v) o := h
theorem t_retp {v : γ} {d : D} (hf : f ρ = .ok d) (h : K (.ok (.rt d)) = .ok (o v)) : Rf (K (fSeq (fRet f) G ρ)) (.ok v) o := by
  show K (fSeq (fRet f) G ρ) = _
  have : fSeq (fRet f) G ρ = .ok (.rt d) := by unfold fSeq fRet; rw [hf]; rfl
  rw [this, h]
/-- at a def's level -/
theorem t_retF {md : Md} {e : γ → D} (hf : Rf (f ρ) N e) : Rf (finF md (fSeq (fRet f) G ρ)) N e := by
  cases N with
  | ok v => exact t_retp hf rfl
  | ex c fs =>
    have : fSeq (fRet f) G ρ = .ok (.xc c fs ρ) := by unfold fSeq fRet; rw [show f ρ = _ from hf]; rfl
    rw [this]
    exact rfl
  | er => exact trivial
theorem lift_p {α : Type} {r : Res α} {a : α} {k : α → Res Fl} (h : r = .ok a) : lift r ρ k = k a := by rw [h]; rfl
theorem t_if (hc : c ρ = .ok b) (h1 : Rf (K (fSeq A G ρ)) N1 o) (h2 : Rf (K (fSeq B G ρ)) N2 o) : Rf (K (fSeq (fIfS c A B) G ρ)) (if b = true then N1 else N2) o := by
  have : fSeq (fIfS c A B) G ρ = if b = true then fSeq A G ρ else fSeq B G ρ := by
    show andThen (lift (c ρ) ρ _) G = _
    rw [lift_p hc]
    cases b <;> rfl
  rw [this]
  cases b with
  | true => exact h1
  | false => exact h2
theorem t_ifT (hc : c ρ = .ok true) (h1 : Rf (K (fSeq A G ρ)) N o) : Rf (K (fSeq (fIfS c A B) G ρ)) N o := t_if (N2 := .er) hc h1 trivial
theorem t_ifF (hc : c ρ = .ok false) (h1 : Rf (K (fSeq B G ρ)) N o) : Rf (K (fSeq (fIfS c A B) G ρ)) N o := t_if (N1 := .er) hc trivial h1
theorem t_ifI (hK : Fin K) {rc : Res Bool} (hc : Rf (c ρ) rc (fun x => x)) (h1 : Rf (K (fSeq A G ρ)) N1 o) (h2 : Rf (K (fSeq B G ρ)) N2 o) : Rf (K (fSeq (fIfS c A B) G ρ)) (rc.bind fun b => if b = true then N1 else N2) o := by
  cases rc with
  | ok b => exact t_if hc h1 h2
  | ex cn fs =>
    have : fSeq (fIfS c A B) G ρ = .ok (.xc cn fs ρ) := by
      show andThen (lift (c ρ) ρ _) G = _
      rw [show c ρ = _ from hc]
      rfl
    rw [this, hK.xc]
    exact rfl
  | er => exact trivial
/-- single statements -/
theorem s_if {vs : List Nat} (hF : Rf (finS vs (fSeq F fNext ρ)) N1 o') : Rf (finS [] (fFgt vs F ρ)) N1 o' := by
  have h := t_end hF
  have : finS [] (fFgt vs F ρ) = finS vs (F ρ) := by
    unfold fFgt fgt finS
    cases F ρ with
    | ok x => cases x <;> rfl
    | _ => rfl
  rw [this]
  exact h
theorem s_setp (E : α → Env) (hf : f ρ = .ok (e v)) (hE : ρ.set i (some (e v)) = E v) : Rf (finS [] (fSet i f ρ)) (.ok v) (fun s => .nx (E s)) := by
  show finS [] (lift (f ρ) ρ _) = _
  rw [lift_p hf]
  show Res.ok (Fl.nx (ρ.set i (some (e v)))) = Res.ok (Fl.nx (E v))
  rw [hE]
theorem s_set (E : α → Env) (hf : Rf (f ρ) r e) (hE : ∀ v, ρ.set i (some (e v)) = E v) : Rf (finS [] (fSet i f ρ)) r (fun s => .nx (E s)) := by
  cases r with
  | ok v => exact s_setp E hf (hE v)
  | ex c fs =>
    show finS [] (lift (f ρ) ρ _) = _
    rw [show f ρ = _ from hf]
    rfl
  | er => exact trivial
end
end Da
namespace Da
open PySem PySem.Spec L2
theorem wipe_some {ρ : Env} {i : Nat} {d : D} : ∀ {vs : List Nat}, (wipeD ρ vs)[i]? = some (some d) → ρ[i]? = some (some d)
  | [], h => h
  | v :: vs, h => by
    unfold wipeD at h
    rw [List.getElem?_set] at h
    split at h
    · split at h <;> cases h
    · exact wipe_some h
theorem wipe_len {ρ : Env} : ∀ {vs : List Nat}, (wipeD ρ vs).length = ρ.length
  | [] => rfl
  | v :: vs => by unfold wipeD; rw [List.length_set, wipe_len]
section
variable {K : PySem.W.Frag} {mg : Str → Option Value} {m : Mds} {S0 H0 H : Hp} {σ : L2.St} {ρ : Env} {vs : List Nat}
theorem StM.wipe (h : StM K mg m S0 H0 σ ρ H) : StM K mg m S0 H0 σ (wipeD ρ vs) H := by
  obtain ⟨S, F, h1, h2, h3⟩ := h
  exact ⟨S, F, h1, ⟨by rw [wipe_len]; exact h2.len, fun i d e => h2.at_ i d (wipe_some e), fun i d e => h2.nd i d (wipe_some e), fun i j d e n a b => h2.apart i j d e n (wipe_some a) (wipe_some b)⟩, fun i d e => h3 i d (wipe_some e)⟩
theorem spost_fgt {E : WX} {L : Lp} {m' : Mds} {o : Res Fl} {Dn : Ends} (h : SPost K mg E L S0 H0 m' (fgt vs o) Dn) : SPost K mg E L S0 H0 m' o Dn := by
  cases o with
  | ok o =>
    cases o with
    | nx ρ => exact fun σ H s => h σ H s.wipe
    | bk ρ => exact fun σ H s => h σ H s.wipe
    | ct ρ => exact fun σ H s => h σ H s.wipe
    | rt d => exact h
    | xc c fs ρ => exact h
  | ex c fs => exact h
  | er => exact h
end
section
variable {X : Cx} {E : WX} {L : Lp} {m m' : Mds} {st : Stmt} {sts : List Stmt} {F : FS}
theorem js_fgt (vs : List Nat) (h : JS X E L m m' st F) : JS X E L m m' st (fFgt vs F) :=
  ⟨PSimp h.ps fun D σ H q => by
    obtain ⟨S0, H0, ρ, a, b⟩ := q
    exact ⟨S0, H0, ρ, a, spost_fgt b⟩⟩
theorem jss_fgt (vs : List Nat) (h : JSs X E L m m' sts F) : JSs X E L m m' sts (fFgt vs F) :=
  ⟨PSsimp h.ps fun D σ H q => by
    obtain ⟨S0, H0, ρ, a, b⟩ := q
    exact ⟨S0, H0, ρ, a, spost_fgt b⟩⟩
end
end Da
namespace Da
open PySem PySem.Spec L2
/-- raise c(..): the fields stand in the reverse of their order -/
def fRaise (c : Str) (ns : List Str) (fs : Env → Res (List D)) : FS := fun ρ => lift (fs ρ) ρ fun ds => if ds.length = ns.length then .ok (.xc c (ns.zip ds).reverse ρ) else .er
def tInit (K : PySem.W.Frag) : List (Str × Nat) → TS
  | [] => tNext
  | q :: r => tSeq (tOst K q.1 (tVar 0) (tVar q.2)) (tInit K r)
/-- the error at a, with the fields acc stored so far -/
def Made (a C : Addr) (H0 : Hp) (acc : List (Str × V)) (H : Hp) : Prop := (acc = [] ∧ H = H0 ∧ H0 a = some (exo a C none)) ∨ ∃ d, H0 d = none ∧ d ≠ a ∧ H = upd (upd H0 d (exd d acc)) a (exo a C (some d))
theorem upd_twice {H : Hp} {a : Addr} {o u : HO} : upd (upd H a o) a u = upd H a u := by
  funext b
  by_cases h : b = a
  · rw [h, upd_same, upd_same]
  · rw [upd_ne h, upd_ne h, upd_ne h]
theorem upd_swap {H : Hp} {a b : Addr} {o u : HO} (h : a ≠ b) : upd (upd H a o) b u = upd (upd H b u) a o := by
  funext x
  by_cases hb : x = b
  · subst hb
    rw [upd_same, upd_ne (fun z => h z.symm), upd_same]
  · rw [upd_ne hb]
    by_cases ha : x = a
    · subst ha; rw [upd_same, upd_same]
    · rw [upd_ne ha, upd_ne ha, upd_ne hb]
theorem init_run {K : PySem.W.Frag} {a C : Addr} {σ : L2.St} {D : Ends} {H0 : Hp} (T : OexC K C) (hσ : σ[0]? = some (some (.ref a))) : ∀ (fj : List (Str × Nat)) (ys : List V) (acc : List (Str × V)) (H : Hp), fj.length = ys.length →
    (∀ (k : Nat) (q : Str × Nat) (y : V), fj[k]? = some q → ys[k]? = some y → σ[q.2]? = some (some y)) → (∀ q ∈ fj, PySem.W.findIn K (.ref C) q.1 = some none) → acc.length + fj.length ≤ 900 → Made a C H0 acc H →
    (∀ H', Made a C H0 (((fj.map (·.1)).zip ys).reverse ++ acc) H' → D.nx σ H') → tInit K fj D σ H
  | [], ys, acc, H, hl, hy, hn, hz, hm, k => k H hm
  | q :: r, [], acc, H, hl, hy, hn, hz, hm, k => by cases hl
  | q :: r, y :: ys, acc, H, hl, hy, hn, hz, hm, k => by
    have go : ∀ H', Made a C H0 ((q.1, y) :: acc) H' → tInit K r D σ H' := fun H' m' => by
      refine init_run T hσ r ys _ H' (by simpa using hl) (fun k' q' y' a b => hy (k' + 1) q' y' (by simpa using a) (by simpa using b)) (fun q' h' => hn q' (List.mem_cons_of_mem _ h')) (by simp at hz ⊢; omega) m' fun H2 m2 => k H2 ?_
      simpa using m2
    refine ⟨y, hy 0 q y rfl rfl, .ref a, hσ, a, C, rfl, T, hn q List.mem_cons_self, ?_⟩
    rcases hm with ⟨e1, e2, e3⟩ | ⟨d, e1, e2, e3⟩
    · subst e1; subst e2
      exact .inl ⟨e3, fun dx hd hne => go _ (.inr ⟨dx, hd, hne, rfl⟩)⟩
    · subst e3
      refine .inr ⟨d, acc, upd_same, by rw [upd_ne e2]; exact upd_same, by simp at hz; omega, go _ (.inr ⟨d, e1, e2, ?_⟩)⟩
      rw [upd_swap (fun z => e2 z.symm), upd_twice]
/-- what such an __init__ promises -/
def spX (K : PySem.W.Frag) (C : Addr) (ns : List Str) : Sp := fun vs H Q _ => ∃ a us, vs = .ref a :: us ∧ us.length = ns.length ∧ H a = some (exo a C none) ∧ ∀ d, H d = none → d ≠ a → Q .non (upd (upd H d (exd d (ns.zip us).reverse)) a (exo a C (some d)))
/-- an own error class with such an __init__ -/
def ErrN (P : Program) (w : World) (K : PySem.W.Frag) (mg : Str → Option Value) (base : Heap) (x : Str) (k : Nat) (ns : List Str) : Prop := ∃ C fI fd ps, mg x = some (.ref C) ∧ OexC K C ∧
  PySem.W.findIn K (.ref C) "__init__" = some (some (.ref fI)) ∧ PySem.W.typeIn K (.ref fI) = some (.type "function") ∧ Binds K fd ps [] ∧ FnOk P w K mg base (L2.CX P w) k fI fd ps (spX K C ns)
def ErrAt (K : PySem.W.Frag) (mg : Str → Option Value) (x qual : Str) (st : Stmt) (ps ns : List Str) : Prop := ∃ C fI fd, mg x = some (.ref C) ∧ OexC K C ∧
  PySem.W.findIn K (.ref C) "__init__" = some (some (.ref fI)) ∧ PySem.W.typeIn K (.ref fI) = some (.type "function") ∧ Fun K "__init__" qual st fI fd ∧ Binds K fd ps [] ∧ ∀ f ∈ ns, PySem.W.findIn K (.ref C) f = some none
section
variable {P : Program} {w : World} {K : PySem.W.Frag} {mg : Str → Option Value} {base h : Heap} {x qual : Str} {st : Stmt} {ps ns N : List Str} {k : Nat}
theorem errN_of {fj : List (Str × Nat)} (dA : ErrAt K mg x qual st ps ns) (Sc : FnScope N ps (defScope st)) (hns : fj.map (·.1) = ns) (hj : fj.map (·.2) = (List.range ns.length).map (· + 1)) (hps : ps.length = ns.length + 1) (hN : N.length = ps.length) (h0 : ns ≠ []) (hz : ns.length ≤ 900)
    (h : ∀ (f : Addr) (cdv : Value) (A : Around) (outer : List PySem.Env) (s : Shared) (H : Hp) (E : XK), PSs (cxOf (L2.CX P w) P w K mg base N qual (defScope st) f cdv A outer s H E) (defBody st) (tInit K fj)) : ErrN P w K mg base x (k + 1) ns := by
  obtain ⟨C, fI, fd, hC, T, i1, i2, Fn, bd, hf⟩ := dA
  refine ⟨C, fI, fd, ps, hC, T, i1, i2, bd, Fn.okX Sc (fun vs H Q E hsp => ?_) (fun cdv A outer s H vs Q E hr hsp => ⟨_, h fI cdv A outer s H E, ?_⟩)⟩
  · obtain ⟨a, us, rfl, e, _⟩ := hsp
    rw [List.length_cons, e, hps]
  · obtain ⟨a, us, rfl, e, ea, q⟩ := hsp
    have hfl : fj.length = ns.length := by rw [← hns, List.length_map]
    have hst : L2.start N (.ref a :: us) = (V.ref a :: us).map some := by
      unfold L2.start
      rw [show N.length - (V.ref a :: us).length = 0 from by rw [hN, hps, List.length_cons, e]; omega]
      simp
    refine init_run T (by rw [hst]; rfl) fj us [] H (by rw [hfl, e]) (fun k' q' y a1 a2 => ?_) (fun q' hq => hf _ (by rw [← hns]; exact List.mem_map_of_mem hq)) (by rw [hfl]; simpa using hz) (.inl ⟨rfl, rfl, ea⟩) fun H' m' => ?_
    · have : (fj.map (·.2))[k']? = some q'.2 := by rw [List.getElem?_map, a1]; rfl
      rw [hj, List.getElem?_map] at this
      have hk : k' < ns.length := by rw [← hfl]; exact (List.getElem?_eq_some_iff.mp a1).1
      rw [List.getElem?_range hk] at this
      have e2 : k' + 1 = q'.2 := by simpa using this
      rw [← e2, hst, List.getElem?_map, List.getElem?_cons_succ, a2]
      rfl
    · rw [List.append_nil] at m'
      rcases m' with ⟨z, _, _⟩ | ⟨d, e1, e2, e3⟩
      · exfalso
        have := congrArg List.length z
        rw [List.length_reverse, List.length_zip, List.length_map, hfl, e, Nat.min_self, List.length_nil] at this
        exact h0 (List.length_eq_zero_iff.mp this)
      · rw [e3, hns]
        exact q d e1 e2
theorem errAt_mk {C f : Addr} {oc : Value} {od an : Option Addr} {osl : Array (Option Value)} {kV doc pm cdv ct : Value} {nm q : Str} {Nx : Addr} {bs bm : List Value} {sn sub ab col : _} {dd : _} {k0 k1 k2 k3 k5 : _} (X : K.In h) (G : h.Ns mainGlobals mg) (a : PySem.W.nsIn K mainGlobals x = some (some (.ref C)))
    (e1 : K.lookup C = some (excClassObj nm q C Nx bs bm true sn sub ab col dd k0 k1 k2 k3 k5 "ValueError.__new__")) (e2 : PySem.HandSPX.refsVE bm = true) (e3 : PySem.W.findIn K (.ref C) "__setattr__" = some (some (.builtin "object.__setattr__"))) (e4 : PySem.W.subIn K (.ref C) (.type "BaseException") = some true)
    (e5 : PySem.W.typeIn K (.ref C) = some (.type "type")) (e6 : PySem.W.keepIn K (.ref C) = true) (m2 : PySem.W.findIn K (.ref C) "__init__" = some (some (.ref f))) (m3 : PySem.W.typeIn K (.ref f) = some (.type "function"))
    (l : K.lookup f = some ⟨oc, od, .func (PySem.W.fnOf "__init__" qual (defArgs st) (defBody st) (defScope st) .none kV doc pm an cdv ct), osl⟩) (cd : PySem.W.codeIn K cdv qual = true) (kf : PySem.W.keepIn K (.ref f) = true)
    (hb : ∀ (kV doc pm : Value) (an : Option Addr) (cdv ct : Value) (us : List Value), us.length = ps.length → bindArgs (PySem.W.fnOf "__init__" qual (defArgs st) (defBody st) (defScope st) .none kV doc pm an cdv ct) ⟨us, []⟩ = pure (ps.zip us))
    (hf : ∀ g ∈ ns, PySem.W.findIn K (.ref C) g = some none) : ErrAt K mg x qual st ps ns := by
  have Fn := fun_mk (st := st) l cd kf
  exact ⟨C, f, _, PySem.W.mg_of X G a, ⟨⟨_, _, _, _, _, _, _, _, _, _, _, _, _, _, _, e1, e2⟩, e3, e4, e5, e6⟩, m2, m3, Fn, Fn.binds hb, hf⟩
end
theorem RepL.rev {K : PySem.W.Frag} {mg : Str → Option Value} {S : Hp} {vs : List V} {ds : List D} (r : RepL K mg S vs ds) : RepL K mg S vs.reverse ds.reverse := by
  refine ⟨by rw [List.length_reverse, List.length_reverse, r.len], fun i v d a b => ?_⟩
  have hi : i < vs.length := by simpa using (List.getElem?_eq_some_iff.mp a).1
  rw [List.getElem?_reverse hi] at a
  rw [List.getElem?_reverse (by rw [← r.len]; exact hi), ← r.len] at b
  exact r.at_ _ v d a b
section
variable {X : Cx} {E : WX} {L : Lp} {m m' : Mds} {c : Str} {ns : List Str} {k : Nat} {p pos p1 : Pos} {e : Expr} {es : List Expr} {fs : Env → Res (List D)}
theorem js_raiseN (T : ErrN X.prog X.w X.K X.mg X.base c k ns) (hr : Room (k + 1) X.A) (tk : Takes X E) (ha : JA X E m (e :: es) fs) (hz : ns.length ≤ 900 := by decide) (hc : X.calm = true := by rfl) (hg : Gl X c := by rfl) (hdb : (c == ("__debug__" : Str)) = false := by decide)
    (he : starEach (e :: es) X.env = (false, eval e X.env) :: starEach es X.env := by rfl) (hpl : (backTo p1 (starEach es X.env)).any (·.1) = false := by rfl) :
    JS X E L m m' (.Raise (some (.Call (.Name c p) (e :: es) [] p1)) none pos) (fRaise c ns fs) := by
  obtain ⟨C, fI, fd, ps, gC, oC, i1, i2, bd, G⟩ := T
  have hx : Passes (L2.CX X.prog X.w) X (fun _ _ _ => False) := fun _ _ _ _ _ _ _ z => by
    obtain ⟨_, _, _, _, _, _, _, _, _, _, _, _, hE⟩ := z
    exact hE.elim
  refine ⟨PSimp (ps_raise hc tk (pmk_oex oC i1 i2 G hr bd .nil hx hg gC ha.pa hdb he hpl)) fun D σ H h => ?_⟩
  obtain ⟨S0, H0, ρ, ⟨S, Fp, st⟩, q⟩ := h
  refine ⟨S, ρ, st.envM, (lift_post st q).imp fun ds S1 H1 s1 q1 vs rs => ?_⟩
  split at q1
  · rename_i hl
    refine ⟨by rw [rs.len, hl]; exact Nat.le_trans hz (by decide), fun a na => ⟨a, vs, by rw [List.append_nil], by rw [rs.len, hl], upd_same, fun d nd hne => ?_⟩⟩
    have nd1 : H1 d = none := by rw [upd_ne hne] at nd; exact nd
    refine ⟨rfl, d, (ns.zip vs).reverse, upd_same, by rw [upd_ne hne]; exact upd_same, nd1, ?_⟩
    have eh : upd (del (upd (upd (upd H1 a (exo a C none)) d (exd d (ns.zip vs).reverse)) a (exo a C (some d))) a) d (.xd (ns.zip vs).reverse) = upd H1 d (.xd (ns.zip vs).reverse) := by
      funext b
      by_cases hb : b = d
      · rw [hb, upd_same, upd_same]
      · rw [upd_ne hb, upd_ne hb]
        by_cases hb2 : b = a
        · rw [hb2, del_same, na]
        · rw [del_ne hb2, upd_ne hb2, upd_ne hb, upd_ne hb2]
    rw [eh]
    have s2 := Step.laid (o := .xd (ns.zip vs).reverse) s1.sub nd1
    obtain ⟨S3, F3, st3, ss⟩ := ((st.step s1).step s2).weak (Weak.nil m)
    refine q1 σ S3 F3 _ _ (some d) st3 ⟨gC, .inr ⟨d, (ns.zip vs).reverse, rfl, ss _ _ upd_same, ?_, ?_⟩⟩
    · rw [List.map_reverse, List.map_reverse, List.map_fst_zip (by rw [rs.len, hl]; exact Nat.le_refl _), List.map_fst_zip (by rw [hl]; exact Nat.le_refl _)]
    · rw [List.map_reverse, List.map_reverse, List.map_snd_zip (by rw [rs.len, hl]; exact Nat.le_refl _), List.map_snd_zip (by rw [hl]; exact Nat.le_refl _)]
      exact (rs.mono (s2.ss.trans ss)).rev
  · exact q1.elim
end
end Da
namespace Da
open PySem PySem.Spec L2
/-- of the classes in l it is known whether a clause, an isinstance takes them -/
def askOf (l : List (Str × Bool)) (c : Str) : Option Bool := l.lookup c
/-- l tells what the clause of hcls takes -/
def SubAt (K : PySem.W.Frag) (mg : Str → Option Value) (hcls : Value) (l : List (Str × Bool)) : Prop := ∀ q ∈ l, ∃ C, mg q.1 = some (.ref C) ∧ PySem.W.exmOne K (.ref C) hcls = some q.2
/-- l tells what isinstance(e, cv) answers -/
def AskAt (K : PySem.W.Frag) (mg : Str → Option Value) (cv : Value) (l : List (Str × Bool)) : Prop := ∀ q ∈ l, ∃ C, mg q.1 = some (.ref C) ∧ PySem.W.kitOne K (.ref C) cv = some q.2
/-- an error class whose errors may be asked -/
def ErrC (K : PySem.W.Frag) (mg : Str → Option Value) (c : Str) : Prop := ∃ C, mg c = some (.ref C) ∧ ExcC K C
theorem mem_of_lookup {β : Type} {c : Str} {b : β} : ∀ {l : List (Str × β)}, l.lookup c = some b → (c, b) ∈ l
  | [], h => by cases h
  | q :: l, h => by
    rw [List.lookup_cons] at h
    split at h
    · rename_i e
      cases h
      have := eq_of_beq e
      rw [this]
      exact List.mem_cons_self
    · exact List.mem_cons_of_mem _ (mem_of_lookup h)
theorem subAt_nil {K : PySem.W.Frag} {mg : Str → Option Value} {v : Value} : SubAt K mg v [] := fun q h => nomatch h
theorem subAt_cons {K : PySem.W.Frag} {mg : Str → Option Value} {v : Value} {c : Str} {b : Bool} {C : Addr} {l : List (Str × Bool)} (h : mg c = some (.ref C)) (e : PySem.W.exmOne K (.ref C) v = some b) (t : SubAt K mg v l) : SubAt K mg v ((c, b) :: l) := fun q hq => by
  rcases List.mem_cons.mp hq with rfl | z
  · exact ⟨C, h, e⟩
  · exact t q z
theorem askAt_nil {K : PySem.W.Frag} {mg : Str → Option Value} {v : Value} : AskAt K mg v [] := fun q h => nomatch h
theorem askAt_cons {K : PySem.W.Frag} {mg : Str → Option Value} {v : Value} {c : Str} {b : Bool} {C : Addr} {l : List (Str × Bool)} (h : mg c = some (.ref C)) (e : PySem.W.kitOne K (.ref C) v = some b) (t : AskAt K mg v l) : AskAt K mg v ((c, b) :: l) := fun q hq => by
  rcases List.mem_cons.mp hq with rfl | z
  · exact ⟨C, h, e⟩
  · exact t q z
/-- the suite's end -/
def endTry (i : Nat) : Res Fl → Res Fl
  | .ok (.nx ρ) => .ok (.nx (ρ.set i none))
  | .ok (.rt d) => .ok (.rt d)
  | _ => .er
/-- the slots of a suite: its error alone -/
def envX (k i : Nat) (c : Str) (fs : List (Str × D)) : Env := (List.replicate k none).set i (some (.exc c (fs.map (·.1)) (fs.map (·.2))))
/-- the clause takes what l says -/
def fTry (k i : Nat) (l : List (Str × Bool)) (F G : FS) : FS := fun ρ => match F ρ with
  | .ok (.xc c fs ρ1) => (match askOf l c with
    | some true => endTry i (G (envX k i c fs))
    | some false => .ok (.xc c fs ρ1)
    | none => .er)
  | o => o
theorem StF.unset {K : PySem.W.Frag} {mg : Str → Option Value} {m : Mds} {S0 H0 S H : Hp} {F : Nat → List Addr} {σ : L2.St} {ρ : Env} (i : Nat) (h : StF K mg m S0 H0 S F σ ρ H) : StF K mg m S0 H0 S F (σ.set i none) (ρ.set i none) H := by
  obtain ⟨st, e, nw⟩ := h
  have key : ∀ j d, (ρ.set i none)[j]? = some (some d) → j ≠ i ∧ ρ[j]? = some (some d) := fun j d ej => by
    by_cases hj : j = i
    · subst hj
      rw [List.getElem?_set, if_pos rfl] at ej
      split at ej <;> cases ej
    · rw [List.getElem?_set_ne (Ne.symm hj)] at ej
      exact ⟨hj, ej⟩
  refine ⟨st, ⟨by rw [List.length_set, List.length_set]; exact e.len, fun j d ej => ?_, fun j d ej => e.nd j d (key j d ej).2, fun j k d d' hjk ej ek => e.apart j k d d' hjk (key j d ej).2 (key k d' ek).2⟩, fun j d ej => nw j d (key j d ej).2⟩
  obtain ⟨hj, ej⟩ := key j d ej
  obtain ⟨v, e1, e2⟩ := e.at_ j d ej
  exact ⟨v, by rw [List.getElem?_set_ne (Ne.symm hj)]; exact e1, e2⟩
section
variable {X : Cx} {E : WX} {L : Lp} {m m' : Mds} {body suite : List Stmt} {b₀ : Stmt} {F G : FS} {x n : Str} {np pos pos' : Pos} {l : List (Str × Bool)}
theorem js_try {hcls : Value} (i : Nat) (k : Nat) (tk : Takes X E) (sa : SubAt X.K X.mg hcls l) (hc : Names X x hcls)
    (hb : ∀ (W : WX) (pn : List (Addr × Obj)) (xe : Value → Shared → Prop), Takes (X.tr pn xe) W → PassesOwn (model X.prog X.w) X.A X.env xe → JSs (X.tr pn xe) W L m m' body F)
    (hsu : ∀ (a : Addr) (oe : Obj) (cls : Value) (d : Option Addr) (pn : List (Addr × Obj)), Zc cls d oe → (∃ vs, oe.data = .fields vs) → JSs (X.suite a ((a, oe) :: pn)) (fun _ _ _ _ => False) ⟨[], [], L.md⟩ ((msh k).set i (.ex a cls d)) ((msh k).set i (.ex a cls d)) (b₀ :: suite) G)
    (hN : X.N.Nodup) (hi : X.N[i]? = some n := by rfl) (hk : i < k := by decide) (hkN : X.N.length = k := by rfl) (hm : m' = msh k := by rfl)
    (hln : X.env.kindOf n = some .local := by rfl) (hs : X.stack = X.env :: X.outer := by rfl) (hf : X.env.frame = some X.env.locals := by rfl) :
    JS X E L m m' (.Try body [.ExceptHandler (some (.Name x np)) (some n) (b₀ :: suite) pos'] [] [] pos) (fTry k i l F G) := by
  refine ⟨PSimp (ps_try_as (tb := fun W => tS X.K X.mg W L m m' F) (ts := fun a cls d => fun Dn σ H => σ.length = X.N.length → tS X.K X.mg (fun _ _ _ _ => False) ⟨[], [], L.md⟩ ((msh k).set i (.ex a cls d)) ((msh k).set i (.ex a cls d)) G Dn σ H) hs hf hN hi hln hc tk (fun W pn xe t1 t2 => (hb W pn xe t1 t2).ps)
    (fun a oe cls d pn hz hfd => ⟨fun pins s σ H D I q => (hsu a oe cls d pn hz hfd).ps.run pins s σ H D I (q I.len)⟩)) fun D σ H h => ?_⟩
  obtain ⟨S0, H0, ρ, st, p⟩ := h
  refine ⟨S0, H0, ρ, st, ?_⟩
  unfold fTry at p
  cases ef : F ρ with
  | er => rw [ef] at p; exact p
  | ex c fs => rw [ef] at p; exact p
  | ok o =>
    rw [ef] at p
    cases o with
    | nx ρ' => exact p
    | rt d => exact p
    | bk ρ' => exact p
    | ct ρ' => exact p
    | xc c fs ρ1 =>
      intro σ1 S1 F1 H1 cls dd st1 xa
      dsimp only at p
      cases ea : askOf l c with
      | none => rw [ea] at p; exact p.elim
      | some b =>
        rw [ea] at p
        obtain ⟨C, gC, ex⟩ := sa _ (mem_of_lookup ea)
        have ec : cls = .ref C := by
          have := xa.1
          rw [gC] at this
          exact (Option.some.inj this).symm
        refine ⟨b, by rw [ec]; exact ex, fun hb1 a na => ?_, fun hb1 => ?_⟩
        · subst hb1
          have p : SPost X.K X.mg E L S0 H0 m' (endTry i (G (envX k i c fs))) D := p
          intro hle
          have hlen : σ1.length = k := (List.length_set.symm.trans hle).trans hkN
          have o : OwnAt X.K X.mg S1 H1 [] (.ref a) (.exc c (fs.map (·.1)) (fs.map (·.2))) (.ex a cls dd) := by
            rcases xa.2 with ⟨z1, z2⟩ | ⟨dx, vfs, e1, e2, e3, e4⟩
            · subst z1
              exact ⟨c, [], [], rfl, rfl, rfl, xa.1, .inl ⟨rfl, z2⟩, .nil⟩
            · exact ⟨c, vfs, fs.map (·.2), rfl, by rw [e3], rfl, xa.1, .inr ⟨dx, e1, e2⟩, e4⟩
          have key : ∀ j d', (envX k i c fs)[j]? = some (some d') → j = i ∧ d' = .exc c (fs.map (·.1)) (fs.map (·.2)) := fun j d' ej => by
            unfold envX at ej
            rw [List.getElem?_set] at ej
            split at ej
            · rename_i hji
              split at ej
              · exact ⟨hji.symm, by injection ej with ej; injection ej with ej; exact ej.symm⟩
              · cases ej
            · rw [List.getElem?_replicate] at ej
              split at ej <;> cases ej
          have st3 : StF X.K X.mg ((msh k).set i (.ex a cls dd)) S0 H0 S1 (fun _ => []) (σ1.set i (some (.ref a))) (envX k i c fs) H1 := by
            refine ⟨st1.1, ⟨by unfold envX; rw [List.length_set, List.length_set, List.length_replicate, hlen], fun j d' ej => ?_, fun j d' ej => List.nodup_nil, fun j j2 d' e' hj ej ek x hx => nomatch hx⟩, fun j d' ej x hx => nomatch hx⟩
            obtain ⟨hj, hd⟩ := key j d' ej
            subst hj; subst hd
            refine ⟨.ref a, ?_, ?_⟩
            · rw [List.getElem?_set, if_pos rfl, if_pos (by rw [hlen]; exact hk)]
            · have hmd : mdAt ((msh k).set j (.ex a cls dd)) j = .ex a cls dd := by
                unfold mdAt
                rw [List.getD_eq_getElem?_getD, List.getElem?_set, if_pos rfl, if_pos (by simpa using hk)]
                rfl
              rw [hmd]
              exact o
          refine ⟨S0, H0, _, ⟨_, _, st3⟩, ?_⟩
          cases eg : G (envX k i c fs) with
          | er => rw [eg] at p; exact p.elim
          | ex c fs => rw [eg] at p; exact p.elim
          | ok o =>
            rw [eg] at p
            cases o with
            | nx ρ' =>
              intro σ' H' ⟨S', F', st'⟩
              obtain ⟨S4, F4, st4, _⟩ := (st'.unset i).weak (m1 := msh k) (fun j => .inr mdAt_msh)
              rw [hm] at p
              exact p _ _ ⟨S4, F4, st4⟩
            | rt d => exact p
            | bk ρ' => exact p.elim
            | ct ρ' => exact p.elim
            | xc c fs ρ' => exact p.elim
        · subst hb1
          exact p σ1 S1 F1 H1 cls dd st1 xa
end
/-- isinstance(e, c), e with or without fields -/
def rIsX (K : PySem.W.Frag) (D a : Addr) (d : Option Addr) : List V → Hp → VK → Prop := fun xs H Q => ∃ (c : V) (cv : Value) (b : Bool), xs = [.ref a, c] ∧ (∀ u, RelV c u → u = cv) ∧ (d = none ∨ ∃ dd fs, d = some dd ∧ H dd = some (.xd fs)) ∧ PySem.W.kitOne K (.ref D) cv = some b ∧ Q (.bl b) H
theorem call_isX {X : Cx} {a D : Addr} {oe : Obj} {d : Option Addr} {pn : List (Addr × Obj)} (C : ExcC X.K D) (hz : Zc (.ref D) d oe) (hf : ∃ vs, oe.data = .fields vs) : CallR (X.suite a ((a, oe) :: pn)) (.builtin "isinstance") (rIsX X.K D a d) := by
  intro pins s σ H xs us Q I r h
  obtain ⟨c, cv, b, e0, hcv, hd, e, q⟩ := h
  subst e0
  cases r with
  | cons rx rr =>
    cases rr with
    | cons rt rr =>
      cases rr
      cases rx
      have ec := hcv _ rt
      subst ec
      have hget := (I.pin (a, oe) (List.mem_append.mpr (.inl List.mem_cons_self))).1
      obtain ⟨vs, hv⟩ := hf
      have hcl : (PySem.W.clsIn X.K D).isSome = true := by
        have z := C.hd
        unfold PySem.W.hasDictIn at z
        cases y : PySem.W.clsIn X.K D with
        | none => rw [y] at z; cases z
        | some _ => rfl
      have J : ∃ od, PySem.W.InstAt s.heap a oe D od := by
        have hno : PySem.W.notCls oe = true := by unfold PySem.W.notCls; rw [hv] <;> rfl
        rcases hd with z | ⟨dd, fs, z, y⟩
        · exact ⟨none, hget, hz.1, hno, by rw [hz.2, z]; exact trivial⟩
        · have hx : ObjOk X.prog X.w H s.heap dd (.xd fs) := I.hok dd _ y
          obtain ⟨mA, hns, hr⟩ := hx
          obtain ⟨od, ho, hl⟩ := lookIn_ns hns
          exact ⟨some od, hget, hz.1, hno, by rw [hz.2, z]; exact ho⟩
      obtain ⟨od, J⟩ := J
      exact PySem.W.kia_one (PySem.W.kitx_exc (od := od) (gt := none) hcl C.hg C.hk C.hs C.ha C.hn C.ht C.hm) I.kIn J e (fun z => nomatch z) fun tk => ⟨.bl b, H, I.kept (t' := tk) fun _ _ z => z, rfl, q⟩
def fIsE (i : Nat) (l : List (Str × Bool)) : Env → Res D := fun ρ => match ρ[i]? with
  | some (some (.exc c _ _)) => (match askOf l c with
    | some b => .ok (.bl b)
    | none => .er)
  | _ => .er
def fFldE (i : Nat) (f : Str) : Env → Res D := fun ρ => match ρ[i]? with
  | some (some (.exc _ ns ds)) => (match (ns.zip ds).lookup f with
    | some d => .ok d
    | none => .er)
  | _ => .er
section
variable {X : Cx} {E : WX} {m : Mds} {l : List (Str × Bool)} {a : Addr} {oe : Obj} {cls : Value} {d : Option Addr} {pn : List (Addr × Obj)} {n y : Str} {p p1 p2 pos : Pos}
theorem je_isE0 (i : Nat) {cV : V} {cv : Value} (hz : Zc cls d oe) (hf : ∃ vs, oe.data = .fields vs) (hm : X.mg "isinstance" = none) (hY : PE (X.suite a ((a, oe) :: pn)) (.Name y p2) (tC cV)) (hrel : ∀ u, RelV cV u → u = cv) (aa : AskAt X.K X.mg cv l) (ec : ∀ q ∈ l, ErrC X.K X.mg q.1) (hmd : mdAt m i = .ex a cls d) (hi : X.N[i]? = some n)
    (hv : Vis X.env.scope n) (hg : Gl X "isinstance") (hd1 : (n == ("__debug__" : Str)) = false) (hd2 : (n == ("__classdict__" : Str)) = false)
    (he : starEach [.Name n p1, .Name y p2] X.env = (false, eval (.Name n p1) X.env) :: starEach [.Name y p2] X.env) (he2 : starEach [.Name y p2] X.env = (false, eval (.Name y p2) X.env) :: starEach [] X.env) (hpl : (backTo pos (starEach [.Name y p2] X.env)).any (·.1) = false) :
    JE (X.suite a ((a, oe) :: pn)) E m .sh (.Call (.Name "isinstance" p) [.Name n p1, .Name y p2] [] pos) (fIsE i l) := by
  by_cases hC : ∃ C, cls = .ref C ∧ ExcC X.K C
  · obtain ⟨C, rfl, hC⟩ := hC
    refine ⟨PEimp (pe_callB (call_isX hC hz hf) hg hm (by decide +kernel) (pa_cons (pe_var (X := X.suite a ((a, oe) :: pn)) hi hv hd1 hd2) (pa_cons hY pa_nil he2) he) (by decide) (by decide) he hpl) fun σ H Q h => ?_⟩
    obtain ⟨S, ρ, hm, hp⟩ := h
    unfold fIsE at hp
    split at hp
    · rename_i c ns vs e
      obtain ⟨hs, F, hm⟩ := hm
      obtain ⟨v, e1, e2⟩ := hm.at_ i _ e
      rw [hmd] at e2
      obtain ⟨c', vfs, ds, y1, y2, y3, y4, y5, y6⟩ := e2
      cases y2
      subst y1
      refine ⟨_, e1, ?_⟩
      split at hp
      · rename_i b eb
        obtain ⟨C2, gC, ek⟩ := aa _ (mem_of_lookup eb)
        have e3 : Value.ref C = .ref C2 := by rw [gC] at y4; exact (Option.some.inj y4).symm
        refine ⟨cV, cv, b, rfl, hrel, ?_, by rw [e3]; exact ek, hp.val hs (.bl _)⟩
        rcases y5 with z | ⟨dx, z1, z2⟩
        · exact .inl z.2
        · exact .inr ⟨dx, vfs, z1, hs _ _ z2⟩
      · exact hp.elim
    · exact hp.elim
  · refine ⟨⟨fun pins s σ H Q I h => ?_⟩⟩
    exfalso
    obtain ⟨S, ρ, hm, hp⟩ := h
    unfold fIsE at hp
    split at hp
    · rename_i c ns vs e
      obtain ⟨hs, F, hm⟩ := hm
      obtain ⟨v, e1, e2⟩ := hm.at_ i _ e
      rw [hmd] at e2
      obtain ⟨c', vfs, ds, y1, y2, y3, y4, y5, y6⟩ := e2
      cases y2
      split at hp
      · rename_i b eb
        obtain ⟨C2, gC, ek⟩ := ec _ (mem_of_lookup eb)
        exact hC ⟨C2, by rw [gC] at y4; exact (Option.some.inj y4).symm, ek⟩
      · exact hp.elim
    · exact hp.elim
/-- the class asked for is an own one, a built-in one -/
theorem je_isE (i : Nat) {Y : Addr} (hz : Zc cls d oe) (hf : ∃ vs, oe.data = .fields vs) (hm : X.mg "isinstance" = none) (hY : X.mg y = some (.ref Y)) (aa : AskAt X.K X.mg (.ref Y) l) (ec : ∀ q ∈ l, ErrC X.K X.mg q.1) (hmd : mdAt m i = .ex a cls d := by rfl) (hi : X.N[i]? = some n := by rfl)
    (hv : Vis X.env.scope n := by first | exact Or.inl rfl | exact Or.inr (Or.inl rfl) | exact Or.inr (Or.inr rfl)) (hg : Gl X "isinstance" := by rfl) (hgY : Gl X y := by rfl) (hdb : (y == ("__debug__" : Str)) = false := by decide) (hd1 : (n == ("__debug__" : Str)) = false := by decide) (hd2 : (n == ("__classdict__" : Str)) = false := by decide)
    (he : starEach [.Name n p1, .Name y p2] X.env = (false, eval (.Name n p1) X.env) :: starEach [.Name y p2] X.env := by rfl) (he2 : starEach [.Name y p2] X.env = (false, eval (.Name y p2) X.env) :: starEach [] X.env := by rfl) (hpl : (backTo pos (starEach [.Name y p2] X.env)).any (·.1) = false := by rfl) :
    JE (X.suite a ((a, oe) :: pn)) E m .sh (.Call (.Name "isinstance" p) [.Name n p1, .Name y p2] [] pos) (fIsE i l) :=
  je_isE0 i hz hf hm (pe_glob (X := X.suite a ((a, oe) :: pn)) (v := .ref Y) hgY hY rfl hdb) (fun u z => z) aa ec hmd hi hv hg hd1 hd2 he he2 hpl
theorem je_isEB (i : Nat) (T : String) (hz : Zc cls d oe) (hf : ∃ vs, oe.data = .fields vs) (hm : X.mg "isinstance" = none) (hY : X.mg y = none) (aa : AskAt X.K X.mg (.type T) l) (ec : ∀ q ∈ l, ErrC X.K X.mg q.1) (hmd : mdAt m i = .ex a cls d := by rfl) (hi : X.N[i]? = some n := by rfl)
    (hvT : bootBuiltins y = some (.type T) := by decide +kernel) (hn : y ≠ "__name__" := by decide)
    (hv : Vis X.env.scope n := by first | exact Or.inl rfl | exact Or.inr (Or.inl rfl) | exact Or.inr (Or.inr rfl)) (hg : Gl X "isinstance" := by rfl) (hgY : Gl X y := by rfl) (hdb : (y == ("__debug__" : Str)) = false := by decide) (hd1 : (n == ("__debug__" : Str)) = false := by decide) (hd2 : (n == ("__classdict__" : Str)) = false := by decide)
    (he : starEach [.Name n p1, .Name y p2] X.env = (false, eval (.Name n p1) X.env) :: starEach [.Name y p2] X.env := by rfl) (he2 : starEach [.Name y p2] X.env = (false, eval (.Name y p2) X.env) :: starEach [] X.env := by rfl) (hpl : (backTo pos (starEach [.Name y p2] X.env)).any (·.1) = false := by rfl) :
    JE (X.suite a ((a, oe) :: pn)) E m .sh (.Call (.Name "isinstance" p) [.Name n p1, .Name y p2] [] pos) (fIsE i l) :=
  je_isE0 i hz hf hm (pe_bltn (X := X.suite a ((a, oe) :: pn)) (v := .ty T) hgY hY hvT rfl hn hdb) (fun u z => z) aa ec hmd hi hv hg hd1 hd2 he he2 hpl
/-- e.f -/
theorem lookup_zipV {K : PySem.W.Frag} {mg : Str → Option Value} {S : Hp} {f : Str} {d0 : D} : ∀ (vfs : List (Str × V)) (ds : List D), RepL K mg S (vfs.map (·.2)) ds → ((vfs.map (·.1)).zip ds).lookup f = some d0 → ∃ v, vfs.lookup f = some v ∧ Rep K mg S v d0
  | [], ds, r, h => by cases ds <;> cases h
  | q :: vfs, [], r, h => by cases h
  | q :: vfs, e :: ds, r, h => by
    rw [List.map_cons, List.zip_cons_cons, List.lookup_cons] at h
    obtain ⟨q1, q2⟩ := q
    rw [List.lookup_cons]
    split at h
    · cases h
      rename_i hq
      dsimp only at hq
      rw [hq]
      exact ⟨q2, rfl, r.head⟩
    · rename_i hq
      dsimp only at hq
      rw [hq]
      exact lookup_zipV vfs ds r.tail h
def FldE (K : PySem.W.Frag) (mg : Str → Option Value) (f : Str) (cs : List Str) : Prop := ∀ c ∈ cs, ∃ C, mg c = some (.ref C) ∧ XfC K C ∧ PySem.W.findIn K (.ref C) f = some none
def fFldC (i : Nat) (f : Str) (cs : List Str) : Env → Res D := fun ρ => match ρ[i]? with
  | some (some (.exc c _ _)) => if cs.contains c = true then fFldE i f ρ else .er
  | _ => .er
theorem je_fldE (i : Nat) {f : Str} {cs : List Str} (hz : Zc cls d oe) (hf : ∃ vs, oe.data = .fields vs) (fc : FldE X.K X.mg f cs) (hmd : mdAt m i = .ex a cls d := by rfl) (hi : X.N[i]? = some n := by rfl)
    (hv : Vis X.env.scope n := by first | exact Or.inl rfl | exact Or.inr (Or.inl rfl) | exact Or.inr (Or.inr rfl)) (hd1 : (n == ("__debug__" : Str)) = false := by decide) (hd2 : (n == ("__classdict__" : Str)) = false := by decide)
    (hb : attributeBase (.Name n p1) f X.env (eval (.Name n p1) X.env) = eval (.Name n p1) X.env := by rfl) :
    JE (X.suite a ((a, oe) :: pn)) E m .sh (.Attribute (.Name n p1) f pos) (fFldC i f cs) := by
  have key : ∀ σ H Q, tE X.K X.mg E m .sh (fFldC i f cs) σ H Q → ∃ C, cls = .ref C ∧ XfC X.K C ∧ PySem.W.findIn X.K (.ref C) f = some none ∧ tXf a cls d C f (tVar i) σ H Q := fun σ H Q h => by
    obtain ⟨S, ρ, hm, hp⟩ := h
    unfold fFldC at hp
    split at hp
    · rename_i c ns vs e
      obtain ⟨hs, F, hm⟩ := hm
      obtain ⟨v, e1, e2⟩ := hm.at_ i _ e
      rw [hmd] at e2
      obtain ⟨c', vfs, ds, y1, y2, y3, y4, y5, y6⟩ := e2
      cases y2
      subst y1
      split at hp
      · rename_i hcs
        obtain ⟨C, gC, T, no⟩ := fc c (by simpa using hcs)
        have ec : cls = .ref C := by rw [gC] at y4; exact (Option.some.inj y4).symm
        refine ⟨C, ec, T, no, _, e1, rfl, ec, ?_⟩
        unfold fFldE at hp
        rw [e] at hp
        dsimp only at hp
        split at hp
        · rename_i d0 el
          obtain ⟨v0, ev, rv⟩ := lookup_zipV vfs _ y6 el
          rcases y5 with z | ⟨dx, z1, z2⟩
          · rw [z.1] at ev; cases ev
          · exact ⟨dx, vfs, v0, z1, hs _ _ z2, ev, hp.val hs rv⟩
        · exact hp.elim
      · exact hp.elim
    · exact hp.elim
  by_cases hC : ∃ C, cls = .ref C ∧ XfC X.K C ∧ PySem.W.findIn X.K (.ref C) f = some none
  · obtain ⟨C, e, T, no⟩ := hC
    refine ⟨PEimp (pe_xf T no hz hf (pe_var (X := X.suite a ((a, oe) :: pn)) hi hv hd1 hd2) hb) fun σ H Q h => ?_⟩
    obtain ⟨C', e', _, _, k⟩ := key σ H Q h
    rw [e] at e'
    have e' : C = C' := Value.ref.inj e'
    rw [e']
    exact k
  · exact ⟨⟨fun pins s σ H Q I h => by
      obtain ⟨C, e, T, no, _⟩ := key σ H Q h
      exact absurd ⟨C, e, T, no⟩ hC⟩⟩
end
theorem errF {K : PySem.W.Frag} {C : Addr} {f : Str} {fs : List Str} (h : PySem.W.findIn K (.ref C) f = some none) (t : ∀ g ∈ fs, PySem.W.findIn K (.ref C) g = some none) : ∀ g ∈ f :: fs, PySem.W.findIn K (.ref C) g = some none := fun g hg => by
  rcases List.mem_cons.mp hg with rfl | z
  · exact h
  · exact t g z
def ClauseAt (K : PySem.W.Frag) (mg : Str → Option Value) (x : Str) (l : List (Str × Bool)) : Prop := ∃ C, mg x = some (.ref C) ∧ SubAt K mg (.ref C) l
def AskOwn (K : PySem.W.Frag) (mg : Str → Option Value) (y : Str) (l : List (Str × Bool)) : Prop := ∃ Y, mg y = some (.ref Y) ∧ AskAt K mg (.ref Y) l
def ErrsC (K : PySem.W.Frag) (mg : Str → Option Value) (cs : List Str) : Prop := ∀ c ∈ cs, ErrC K mg c
theorem errsC_nil {K : PySem.W.Frag} {mg : Str → Option Value} : ErrsC K mg [] := fun c h => nomatch h
theorem errsC_cons {K : PySem.W.Frag} {mg : Str → Option Value} {c : Str} {C : Addr} {cs : List Str} (h : mg c = some (.ref C)) (e : ExcC K C) (t : ErrsC K mg cs) : ErrsC K mg (c :: cs) := fun q hq => by
  rcases List.mem_cons.mp hq with rfl | z
  · exact ⟨C, h, e⟩
  · exact t q z
theorem fldE_nil {K : PySem.W.Frag} {mg : Str → Option Value} {f : Str} : FldE K mg f [] := fun c h => nomatch h
theorem fldE_cons {K : PySem.W.Frag} {mg : Str → Option Value} {f c : Str} {C : Addr} {cs : List Str} (h : mg c = some (.ref C)) (e : xfB K C = true) (n : PySem.W.findIn K (.ref C) f = some none) (t : FldE K mg f cs) : FldE K mg f (c :: cs) := fun q hq => by
  rcases List.mem_cons.mp hq with rfl | z
  · exact ⟨C, h, xfB_ok e, n⟩
  · exact t q z
theorem clauseAt_mk {K : PySem.W.Frag} {mg : Str → Option Value} {x : Str} {C : Addr} {l : List (Str × Bool)} (h : mg x = some (.ref C)) (s : SubAt K mg (.ref C) l) : ClauseAt K mg x l := ⟨C, h, s⟩
theorem askOwn_mk {K : PySem.W.Frag} {mg : Str → Option Value} {x : Str} {C : Addr} {l : List (Str × Bool)} (h : mg x = some (.ref C)) (s : AskAt K mg (.ref C) l) : AskOwn K mg x l := ⟨C, h, s⟩
def excB (K : PySem.W.Frag) (D : Addr) : Bool := decide (PySem.W.findIn K (.ref D) "__getattribute__" = some (some (.builtin "BaseException.__getattribute__"))) && (decide (PySem.W.findIn K (.ref D) "__getattr__" = some none) && (decide (PySem.W.subIn K (.ref D) (.type "BaseException") = some true) &&
  (PySem.W.hasDictIn K D && (decide (PySem.W.findIn K (.ref D) "__class__" = some (some (.builtin "object.__class__"))) && (decide (PySem.W.specialIn K (.builtin "object.__class__") "__get__" = some (some (.builtin "getset_descriptor.__get__"))) &&
  (decide (PySem.W.takesIn K (.builtin "object.__class__") = some true) && decide (PySem.W.mroIn K D (.type "object") = some true)))))))
theorem excB_ok {K : PySem.W.Frag} {D : Addr} (h : excB K D = true) : ExcC K D := by
  unfold excB at h
  simp only [Bool.and_eq_true, decide_eq_true_eq] at h
  obtain ⟨h1, h2, h3, h4, h5, h6, h7, h8⟩ := h
  exact ⟨h1, h2, h3, h4, h5, h6, h7, h8⟩
section
variable {X : Cx} {E : WX} {L : Lp} {m m' : Mds} {body suite : List Stmt} {b₀ : Stmt} {F G : FS} {x n : Str} {np pos pos' : Pos} {l : List (Str × Bool)}
theorem js_tryN (i : Nat) (k : Nat) (tk : Takes X E) (sa : ClauseAt X.K X.mg x l)
    (hb : ∀ (W : WX) (pn : List (Addr × Obj)) (xe : Value → Shared → Prop), Takes (X.tr pn xe) W → PassesOwn (model X.prog X.w) X.A X.env xe → JSs (X.tr pn xe) W L m m' body F)
    (hsu : ∀ (a : Addr) (oe : Obj) (cls : Value) (d : Option Addr) (pn : List (Addr × Obj)), Zc cls d oe → (∃ vs, oe.data = .fields vs) → JSs (X.suite a ((a, oe) :: pn)) (fun _ _ _ _ => False) ⟨[], [], L.md⟩ ((msh k).set i (.ex a cls d)) ((msh k).set i (.ex a cls d)) (b₀ :: suite) G)
    (hN : X.N.Nodup) (hi : X.N[i]? = some n := by rfl) (hk : i < k := by decide) (hkN : X.N.length = k := by rfl) (hm : m' = msh k := by rfl) (hg : Gl X x := by rfl) (hdb : (x == ("__debug__" : Str)) = false := by decide)
    (hln : X.env.kindOf n = some .local := by rfl) (hs : X.stack = X.env :: X.outer := by rfl) (hf : X.env.frame = some X.env.locals := by rfl) :
    JS X E L m m' (.Try body [.ExceptHandler (some (.Name x np)) (some n) (b₀ :: suite) pos'] [] [] pos) (fTry k i l F G) := by
  obtain ⟨C, hC, sa⟩ := sa
  exact js_try i k tk sa ⟨hg, hdb, .inl hC⟩ hb hsu hN hi hk hkN hm hln hs hf
end
section
variable {X : Cx} {E : WX} {m : Mds} {l : List (Str × Bool)} {a : Addr} {oe : Obj} {cls : Value} {d : Option Addr} {pn : List (Addr × Obj)} {n y : Str} {p p1 p2 pos : Pos} {cs : List Str}
theorem ErrsC.of (h : ErrsC X.K X.mg cs) (e : l.all (fun q => cs.contains q.1) = true) : ∀ q ∈ l, ErrC X.K X.mg q.1 := fun q hq => h _ (by
  have := List.all_eq_true.mp e q hq
  simpa using this)
theorem je_isEO (i : Nat) (hz : Zc cls d oe) (hf : ∃ vs, oe.data = .fields vs) (hm : X.mg "isinstance" = none) (hY : AskOwn X.K X.mg y l) (ec : ErrsC X.K X.mg cs) (hcs : l.all (fun q => cs.contains q.1) = true := by decide) (hmd : mdAt m i = .ex a cls d := by rfl) (hi : X.N[i]? = some n := by rfl)
    (hv : Vis X.env.scope n := by first | exact Or.inl rfl | exact Or.inr (Or.inl rfl) | exact Or.inr (Or.inr rfl)) (hg : Gl X "isinstance" := by rfl) (hgY : Gl X y := by rfl) (hdb : (y == ("__debug__" : Str)) = false := by decide) (hd1 : (n == ("__debug__" : Str)) = false := by decide) (hd2 : (n == ("__classdict__" : Str)) = false := by decide)
    (he : starEach [.Name n p1, .Name y p2] X.env = (false, eval (.Name n p1) X.env) :: starEach [.Name y p2] X.env := by rfl) (he2 : starEach [.Name y p2] X.env = (false, eval (.Name y p2) X.env) :: starEach [] X.env := by rfl) (hpl : (backTo pos (starEach [.Name y p2] X.env)).any (·.1) = false := by rfl) :
    JE (X.suite a ((a, oe) :: pn)) E m .sh (.Call (.Name "isinstance" p) [.Name n p1, .Name y p2] [] pos) (fIsE i l) := by
  obtain ⟨Y, hY, aa⟩ := hY
  exact je_isE i hz hf hm hY aa (ec.of hcs) hmd hi hv hg hgY hdb hd1 hd2 he he2 hpl
end
end Da
namespace Da
open PySem PySem.Spec L2
section
variable {X : Cx} {pins : List (Addr × Obj)} {σ : L2.St} {H : Hp} {s : Shared} {E : Value → Shared → Prop}
/-- set.add of a tuple of ints -/
theorem addT_ok {D t : Addr} {ls : List (Addr × List Int)} {k : List Int} {Q : Value → Shared → Prop} (hu : X.A.units + 64 < cLine) (I : Inv X pins σ H s) (hD : H D = some (SetTO X.prog X.w D ls))
    (hL : ∀ p ∈ ls, SqT X.K H p.1 (p.2.map V.int)) (ht : SqT X.K H t (k.map V.int)) (room : ls.length + 1 < 64)
    (h : ∀ s' ls', Inv X pins σ (upd H D (SetTO X.prog X.w D ls')) s' → (k ∈ ls.map (·.2) → ls' = ls) → (k ∉ ls.map (·.2) → ls'.Perm ((t, k) :: ls)) → Q .none s') :
    wpAny (model X.prog X.w) X.A (call (.builtin "set.add") [.ref D, .ref t]) Q E s := by
  have R0 : SetT0 X.prog X.w s.heap D ls := (I.hok D _ hD).1
  obtain ⟨es, ep, tb, R⟩ := R0.full fun p hp => I.isT (hL p hp)
  have hx := I.isT ht
  obtain ⟨ob, hob, hex, hdt⟩ := R.ob
  have hu1 : X.A.in1.units < cLine := by show X.A.units + 1 < cLine; omega
  refine wpAny_call_entry F.slot_set_add ⟨ob, hob, hex.1⟩ F.entry_set_add ?_ (F.args_set_add_2 _ _)
  unfold Builtin.«set.add» Builtin.Frozenset.oneOther
  simp only [List.isEmpty_nil, bind_assoc]
  unfold Builtin.Frozenset.addrOf setAdd
  refine wpAny_bind (wpAny_pure ?_)
  try dsimp only
  refine wpAny_bind (wpAny_pure ?_)
  try dsimp only
  refine wpAny_bind ?_
  refine wpAny_holding ?_
  refine wpAny_bind (wpAny_pyHash_tuple hu1 hx ?_)
  refine add_at (A := X.A.in1) (s := { s with toks := s.toks + (k.length + 1) }) R hx hu1 room fun b h' ls' es' ep' tb' sb R' c1 c2 => ?_
  have J : Inv X pins σ (upd H D (SetTO X.prog X.w D ls')) { s with heap := h', toks := s.toks + (k.length + 1) } := by
    obtain ⟨ob', hob', _⟩ := R'.ob
    exact I.write (e := D) (t' := s.toks + (k.length + 1)) (by rw [hD]; trivial) (.inl rfl) (fun b u hb hu => (sb.2 b hb).trans hu) ⟨ob', hob'⟩ (setTO_new R'.t0)
  show wpAny _ _ (ret Value.none) _ _ _
  exact wpAny_pure ⟨_, rfl, h _ ls' J c1 c2⟩
end
section
variable {X : Cx}
/-- {elt for target in iter if ..}: D the new set, its members rows of ints -/
def tSet (K : PySem.W.Frag) (P : Program) (w : World) (wi : TI) (g : TG) (tt : TT) (te : TE) (vs : List Nat) : TE := fun σ H Q => wi σ H fun J H1 => ∀ D, H1 D = none →
  ∃ W : Nat → Nat → Hp → Prop, (∃ m, W 0 m (upd H1 D (SetTO P w D []))) ∧ ∀ i m H, W i m H → (J.stop i H ∧ Q (.ref D) H) ∨
    (J.go i H ∧ ∃ Nx : Hp → Prop, (∀ H', Nx H' → ∃ m', m' < m ∧ W (i + 1) m' H') ∧ ∀ x H', J.yld i H x H' → g x (wipe σ vs) H' fun σ2 H2 => wipe σ2 vs = wipe σ vs ∧ tt σ2 H2 fun b H3 =>
      if b = true then te σ2 H3 fun y H4 => ∃ (t : Addr) (k : List Int) (ls : List (Addr × List Int)), y = .ref t ∧ SqT K H4 t (k.map V.int) ∧ H4 D = some (SetTO P w D ls) ∧ (∀ p ∈ ls, SqT K H4 p.1 (p.2.map V.int)) ∧ ls.length + 1 < 64 ∧
        ∀ ls', (k ∈ ls.map (·.2) → ls' = ls) → (k ∉ ls.map (·.2) → ls'.Perm ((t, k) :: ls)) → Nx (upd H4 D (SetTO P w D ls'))
      else Nx H3)
theorem set_fresh {P : Program} {w : World} {h : Heap} : SetT0 P w (h.push { cls := .type "set", dict := none, data := .set #[] 0 (.fresh 0 0 (!w.params.followText "set-order")) }) h.objs.size [] :=
  (setTR_fresh (Heap.get?_push_size _ rfl)).t0
theorem pe_setT {elt tg iter : Expr} {ifs : List Expr} {scope : Scope} {own : List (PySem.Str × Nat)} {pos : Pos} {wi : TI} {g : TG} {tt : TT} {te : TE} (hu : X.A.units + 164 < cLine) (hc : X.calm = true) (hN : X.N.Nodup) (hi : PI X tg iter wi) (ok : BlkOk X.N X.env.scope scope own)
    (hg : ∀ (s : Shared) (H : Hp) (C : Addr) (cl : List (PySem.Str × Addr)) (fp : List Addr), PG (X.blk s H scope (compEnvC scope cl C X.env) fp) tg g)
    (ht : ∀ (s : Shared) (H : Hp) (C : Addr) (cl : List (PySem.Str × Addr)) (fp : List Addr), PTs (X.blk s H scope (compEnvC scope cl C X.env) fp) ifs tt)
    (he : ∀ (s : Shared) (H : Hp) (C : Addr) (cl : List (PySem.Str × Addr)) (fp : List Addr), PE (X.blk s H scope (compEnvC scope cl C X.env) fp) elt te)
    (hs : ∀ x, foldedSetIterable iter X.env x = pure x := by intro _; rfl) :
    PE X (.SetComp elt [⟨tg, iter, ifs, 0⟩] scope pos) (tSet X.K X.prog X.w wi g tt te (own.map (·.2))) := by
  refine ⟨fun pins s σ H Q I h => ?_⟩
  rw [PpSet.eval_SetComp]
  have free : ∀ y ∈ scope.names, y.2 = .free → ∃ c, X.env.cells.lookup y.1 = some c := fun y hy e => (ok.free y hy e).elim (fun k => I.ok.has _ (.inl k)) (fun k => I.ok.has _ (.inr k))
  refine wpAny_comprehension_free rfl hs (closure_ok free) ok.kind (fun y hy e => by rw [ok.uniq y hy, e]) ?_
  refine thn (hi.run pins s σ H _ I h) fun xv s1 hx => ?_
  refine thn hx fun itv s2 h2 => ?_
  obtain ⟨it, fp, tn, J, H2, e, I2, T, st2, f2, q⟩ := h2
  subst e
  refine PpSet.newSet_ok (newEnv_comp ?_)
  generalize hD : s2.heap.objs.size = D
  obtain ⟨W, ⟨m0, w0⟩, turn⟩ := q D (I2.hok.fresh (Nat.le_of_eq hD))
  let nw : Obj := { cls := .type "set", dict := none, data := .set #[] 0 (.fresh 0 0 (!X.w.params.followText "set-order")) }
  generalize hs3 : ({ s2 with heap := s2.heap.push nw } : Shared) = s3
  have h3 : s3.heap = s2.heap.push nw := by rw [← hs3]
  have keep3 : ∀ b o, s2.heap.get? b = some o → s3.heap.get? b = some o := fun b o e => by rw [h3]; exact Heap.get?_push_of_some _ e
  have I3 : Inv X pins σ (upd H2 D (SetTO X.prog X.w D [])) s3 := by
    rw [← hs3]
    refine I2.laid (t' := s2.toks) (fun b o e => Heap.get?_push_of_some _ e) (Nat.le_of_eq hD) ?_
    rw [← hD]
    exact setTO_new set_fresh
  have f3 : ∀ b ∈ fp, FpOk X pins (upd H2 D (SetTO X.prog X.w D [])) b ∧ b < s3.heap.objs.size := fun b hb => by
    have hlt : b < s2.heap.objs.size := by
      obtain ⟨o, e, _⟩ := T.obj _ _ st2 b hb
      exact Heap.lt_size e
    refine ⟨⟨?_, (f2 b hb).2⟩, by rw [h3, Heap.size_push]; exact Nat.lt_succ_of_lt hlt⟩
    have hne : b ≠ D := by rw [← hD]; exact Nat.ne_of_lt hlt
    rw [upd_ne hne]
    exact (f2 b hb).1
  have st3 : tn 0 s3.heap := T.keep _ _ _ st2 fun b _ o e => keep3 b o e
  have I4 := block_start I3 ok hN f3
  generalize hH3 : upd H2 D (SetTO X.prog X.w D []) = H3 at I3 I4 w0 f3
  generalize hcl : cellsFrom (s3.heap.objs.size + 1) scope.names (cloFrom X.env.cells scope.names []) = cl at I4
  have pg := hg s3 H3 s3.heap.objs.size cl fp
  have pt := ht s3 H3 s3.heap.objs.size cl fp
  have pe := he s3 H3 s3.heap.objs.size cl fp
  show codeAny _ _ (.compStart (.SetComp elt [⟨tg, iter, ifs, 0⟩] scope pos) 0 (.ref it) (.ref D) (compEnvC scope cl s3.heap.objs.size X.env)) (compPost (model X.prog X.w) X.A X.xe none (EP X pins σ Q) (.ref D) s3.heap.objs.size) { s3 with heap := pushCells (s3.heap.push { cls := .type "dict", data := .dict #[] }) scope.names }
  have nfp : ∀ b ∈ fp, H3 b = none := fun b hb => (f3 b hb).1.1
  generalize hce : compEnvC scope cl s3.heap.objs.size X.env = ce at I4 pg pt pe ⊢
  have cL : ce.locals = s3.heap.objs.size := by rw [← hce]; rfl
  generalize hs4 : ({ s3 with heap := pushCells (s3.heap.push { cls := .type "dict", data := .dict #[] }) scope.names } : Shared) = s4 at I4 ⊢
  have st4 : tn 0 s4.heap := T.keep _ _ _ st3 fun b _ o e => by rw [← hs4]; exact pushCells_keeps _ _ _ _ (Heap.get?_push_of_some _ e)
  have stat : ∀ {σ' : L2.St} {H' : Hp} {s' : Shared}, Inv (X.blk s3 H3 scope ce fp) [] σ' H' s' → (∀ b ∈ fp, H' b = none) → ∀ b ∈ fp, FpOk (X.blk s3 H3 scope ce fp) [] H' b := fun {σ' H' s'} I' hn b hb =>
    ⟨hn b hb, (I'.ok.exf b hb).1, I'.ok.exfs b hb, .inl hb, fun x c e => (I'.ok.exf b hb).2 x c e, fun p hp => nomatch (show p ∈ ([] : List (Addr × Obj)) from hp)⟩
  have hub : (X.blk s3 H3 scope ce fp).A.units + 64 < cLine := by show X.A.units + 64 < cLine; omega
  have loop : codeAny (model X.prog X.w) X.A (.compLoop (.SetComp elt [⟨tg, iter, ifs, 0⟩] scope pos) 0 (.ref it) (.ref D) ce) (compPost (model X.prog X.w) X.A X.xe none (EP X pins σ Q) (.ref D) s3.heap.objs.size) s4 := by
    refine PpSet.compLoopS_any (fun n s' => ∃ i H', Inv (X.blk s3 H3 scope ce fp) [] (wipe σ (own.map (·.2))) H' s' ∧ tn i s'.heap ∧ (∀ b ∈ fp, H' b = none) ∧ W i n H') ?_ m0 ⟨0, H3, I4, st4, nfp, w0⟩
    rintro n s5 ⟨i, H5, I5, st5, n5, w5⟩
    rcases turn i n H5 w5 with ⟨stop, qq⟩ | ⟨go, Nx, hNx, step⟩
    · refine thnF (T.done (X.blk s3 H3 scope ce fp) rfl rfl rfl hc i [] s5 _ H5 (fun _ _ => False) I5 (stat I5 n5) st5 stop) fun r s6 ⟨hr, I6⟩ => ?_
      subst hr
      have I7 : Inv X pins σ H5 s6 := I3.call' (ch := fp) I6.os I6.base I6.hok I6.bare fun b hb => by
        obtain ⟨y0, y1, y2, y3, y4, y5⟩ := (f3 b hb).1
        exact ⟨y3, y1, y4, y5⟩
      have nC : H5 s3.heap.objs.size = none := by
        rw [← cL]
        exact I6.free
      obtain ⟨m, hn, _⟩ := I6.loc
      have hn : s6.heap.Ns ce.locals m := hn
      rw [cL] at hn
      obtain ⟨k0, k1, k2, k3, k4, k5⟩ := I3.fpOk (Nat.le_refl _) nC
      exact ⟨m, hn, fun h'' sb => ⟨.ref D, H5, I7.turned (t' := s6.toks) (fun b o hb e => (sb.2 b hb).trans e) k0 k1 k3 k4 k5, rfl, qq⟩⟩
    · refine thnF (T.item (X.blk s3 H3 scope ce fp) rfl rfl rfl hc i [] s5 _ H5 (fun _ _ => False) I5 (stat I5 n5) st5 go) fun r s6 ⟨u, hr, h6⟩ => ?_
      subst hr
      refine thnF h6 fun _ s7 ⟨x, H7, I7, r7, y7, st7, n7⟩ => ?_
      have P7 := I7.pinned (stat I7 n7) (T.obj _ _ st7)
      refine thnF (pg.run _ s7 _ H7 x u _ P7 r7 (step x H7 y7)) fun _ s8 ⟨σ8, H8, I8, hw8, q8⟩ => ?_
      refine thnF (pt.run _ s8 σ8 H8 _ I8 q8) fun b s9 ⟨H9, I9, q9⟩ => ?_
      have fin : ∀ {s' : Shared} {H' : Hp}, Inv (X.blk s3 H3 scope ce fp) ([] ++ pinsAt fp s7.heap) σ8 H' s' → Nx H' → ∃ m, m < n ∧ ∃ i H', Inv (X.blk s3 H3 scope ce fp) [] (wipe σ (own.map (·.2))) H' s' ∧ tn i s'.heap ∧ (∀ b ∈ fp, H' b = none) ∧ W i m H' := fun {s' H'} I' nx => by
        obtain ⟨m', hm, w'⟩ := hNx H' nx
        have pin' : ∀ b ∈ fp, ∀ o, s7.heap.get? b = some o → s'.heap.get? b = some o ∧ H' b = none := fun b hb o e => by
          have z := I'.pin (b, o) (List.mem_append_right _ (List.mem_append_right _ (mem_pinsAt hb e)))
          exact ⟨z.1, z.2.1⟩
        have hl : (wipe σ (own.map (·.2))).length = σ8.length := by rw [← hw8, wipe_length]
        refine ⟨m', hm, i + 1, H', (I'.unpinned (pins := [])).weak hl (fun j v e => ?_), T.keep _ _ _ st7 fun b hb o e => (pin' b hb o e).1, fun b hb => ?_, w'⟩
        · rw [← hw8] at e
          exact (L2.wipe_some e).1
        · obtain ⟨o, e, _⟩ := T.obj _ _ st7 b hb
          exact (pin' b hb o e).2
      cases b with
      | false =>
        simp only [Bool.false_eq_true, if_false] at q9 ⊢
        exact fin I9 q9
      | true =>
        simp only [if_true] at q9 ⊢
        refine thnF (pe.run _ s9 σ8 H9 _ I9 q9) fun z s10 ⟨yv, H10, I10, r10, t, k, ls, ey, hk10, hD10, hls, hz10, nx⟩ => ?_
        subst ey
        cases (show z = Value.ref t from r10)
        exact addT_ok (X := X.blk s3 H3 scope ce fp) hub I10 hD10 hls hk10 hz10 fun s11 ls' I11 c1 c2 => fin I11 (nx ls' c1 c2)
  exact PpSet.codeAny_compStart_set loop (T.self X.A 0 _ _ _ st4 loop)
end
end Da
namespace Da
open PySem PySem.Spec L2
def cdP (p : Int × Int) : Int := p.1 * 64 + p.2
def dcP (z : Int) : Int × Int := (z / 64, z % 64)
def P64 (p : Int × Int) : Prop := 0 ≤ p.1 ∧ p.1 < 64 ∧ 0 ≤ p.2 ∧ p.2 < 64
instance (p : Int × Int) : Decidable (P64 p) := by unfold P64; exact inferInstance
theorem dc_cd {p : Int × Int} (h : P64 p) : dcP (cdP p) = p := by
  unfold dcP cdP
  obtain ⟨a, b⟩ := p
  obtain ⟨h1, h2, h3, h4⟩ := h
  dsimp only at h1 h2 h3 h4 ⊢
  rw [show (a * 64 + b) / 64 = a by omega, show (a * 64 + b) % 64 = b by omega]
/-- each number once -/
def onceI : List Int → List Int
  | [] => []
  | x :: xs => if x ∈ xs then onceI xs else x :: onceI xs
theorem mem_onceI {x : Int} : ∀ {xs : List Int}, x ∈ onceI xs ↔ x ∈ xs
  | [] => Iff.rfl
  | y :: xs => by
    unfold onceI
    by_cases h : y ∈ xs
    · rw [if_pos h, mem_onceI, List.mem_cons]
      exact ⟨.inr, fun z => z.elim (fun e => by rw [e]; exact h) id⟩
    · rw [if_neg h, List.mem_cons, List.mem_cons, mem_onceI]
theorem nodup_onceI : ∀ xs : List Int, (onceI xs).Nodup
  | [] => List.nodup_nil
  | y :: xs => by
    unfold onceI
    by_cases h : y ∈ xs
    · rw [if_pos h]; exact nodup_onceI xs
    · rw [if_neg h]; exact List.nodup_cons.mpr ⟨fun z => h (mem_onceI.mp z), nodup_onceI xs⟩
/-- the pairs, each once, in order -/
def sortP (ps : List (Int × Int)) : List (Int × Int) := ((onceI (ps.map cdP)).mergeSort leI).map dcP
def pD (p : Int × Int) : D := .tup [.int p.1, .int p.2]
def pairD : D → Option (Int × Int)
  | .tup [.int a, .int b] => if P64 (a, b) then some (a, b) else none
  | _ => none
theorem pairD_some {d : D} {p : Int × Int} (h : pairD d = some p) : d = pD p ∧ P64 p := by
  unfold pairD at h
  split at h
  · split at h
    · rename_i hp
      cases h
      exact ⟨rfl, hp⟩
    · cases h
  · cases h
def pairsD : List D → Option (List (Int × Int))
  | [] => some []
  | d :: ds => match pairD d, pairsD ds with
    | some p, some ps => some (p :: ps)
    | _, _ => none
theorem pairsD_some : ∀ {ds : List D} {ps : List (Int × Int)}, pairsD ds = some ps → ds = ps.map pD ∧ ∀ p ∈ ps, P64 p
  | [], _, h => by cases h; exact ⟨rfl, fun _ z => nomatch z⟩
  | d :: ds, _, h => by
    unfold pairsD at h
    split at h
    · rename_i p ps e1 e2
      cases h
      obtain ⟨a1, a2⟩ := pairD_some e1
      obtain ⟨b1, b2⟩ := pairsD_some e2
      refine ⟨by rw [a1, b1]; rfl, fun q hq => ?_⟩
      rcases List.mem_cons.mp hq with rfl | hq
      · exact a2
      · exact b2 q hq
    · cases h
/-- the parts of a split list -/
theorem pairsD_at {ds rest : List D} {y : D} {ps : List (Int × Int)} (h : pairsD (ds ++ y :: rest) = some ps) : ∃ p, pairD y = some p := by
  induction ds generalizing ps with
  | nil =>
    rw [List.nil_append] at h
    unfold pairsD at h
    split at h
    · rename_i p ps e1 e2; exact ⟨p, e1⟩
    · cases h
  | cons d ds ih =>
    rw [List.cons_append] at h
    unfold pairsD at h
    split at h
    · rename_i p ps e1 e2; exact ih e2
    · cases h
def fSortSc (vs : List Nat) (it : Env → Res (List D)) (g : D → Env → Res Env) (c : Env → Res Bool) (f : Env → Res D) : Env → Res D := fun ρ => (it ρ).bind fun xs => match lcGo g c f (wipeD ρ vs) xs with
  | .ok ys => (match pairsD ys with
    | some ps => if ps.length < 64 then .ok (.lst ((sortP ps).map pD)) else .er
    | none => .er)
  | _ => .er
theorem code_key {p : Int × Int} : TS.code 64 [p.1, p.2] = cdP p := code_pair _ _
def keyP (p : Int × Int) : List Int := [p.1, p.2]
theorem eq_sorted {xs ys : List Int} (h1 : xs.Pairwise (· ≤ ·)) (h2 : xs.Nodup) (h3 : ys.Pairwise (· ≤ ·)) (h4 : ys.Nodup) (h : ∀ z, z ∈ xs ↔ z ∈ ys) : xs = ys := by
  have hp : xs.Perm ys := (List.perm_ext_iff_of_nodup h2 h4).mpr h
  exact List.Perm.eq_of_pairwise (fun a b _ _ hab hba => Int.le_antisymm hab hba) h1 h3 hp
/-- what a sorted list of the members is -/
theorem sorted_members {ps : List (Int × Int)} {L : List (Addr × List Int)} (hps : ∀ p ∈ ps, P64 p) (hm : ∀ k, k ∈ L.map (·.2) ↔ k ∈ ps.map keyP) (hn : (L.map (·.2)).Nodup) (hs : L.Pairwise (fun q r => TS.code 64 q.2 ≤ TS.code 64 r.2)) : L.map (·.2) = (sortP ps).map keyP := by
  have hk : ∀ k ∈ L.map (·.2), ∃ p, p ∈ ps ∧ k = keyP p := fun k h => by
    obtain ⟨p, a, b⟩ := List.mem_map.mp ((hm k).mp h)
    exact ⟨p, a, b.symm⟩
  -- by codes
  have e : (L.map (·.2)).map (TS.code 64) = (onceI (ps.map cdP)).mergeSort leI := by
    refine eq_sorted ?_ ?_ ?_ ?_ fun z => ?_
    · rw [List.map_map, List.pairwise_map]
      exact hs
    · refine List.pairwise_map.mpr (hn.imp_of_mem fun {x y} hx hy hne hxy => hne ?_)
      obtain ⟨p, p1, rfl⟩ := hk x hx
      obtain ⟨q, q1, rfl⟩ := hk y hy
      have : cdP p = cdP q := by rw [← code_key, ← code_key]; exact hxy
      rw [← dc_cd (hps p p1), ← dc_cd (hps q q1), this]
    · have := List.pairwise_mergeSort (le := leI) (fun a b c h1 h2 => by unfold leI at *; simp at *; omega) (fun a b => by unfold leI; simp; omega) (onceI (ps.map cdP))
      exact this.imp fun h => by unfold leI at h; simpa using h
    · exact (List.mergeSort_perm _ _).nodup_iff.mpr (nodup_onceI _)
    · rw [(List.mergeSort_perm _ _).mem_iff, mem_onceI]
      constructor
      · intro h
        obtain ⟨k, h1, h2⟩ := List.mem_map.mp h
        obtain ⟨p, p1, rfl⟩ := hk k h1
        rw [← h2]
        exact List.mem_map.mpr ⟨p, p1, code_key.symm⟩
      · intro h
        obtain ⟨p, p1, p2⟩ := List.mem_map.mp h
        refine List.mem_map.mpr ⟨keyP p, (hm _).mpr (List.mem_map_of_mem p1), ?_⟩
        rw [← p2]
        exact code_key
  unfold sortP
  rw [← e, List.map_map, List.map_map, List.map_map]
  refine (List.map_congr_left fun q hq => ?_).symm
  obtain ⟨p, p1, p2⟩ := hk q.2 (List.mem_map_of_mem hq)
  show keyP (dcP (TS.code 64 q.2)) = q.2
  rw [p2]
  show keyP (dcP (TS.code 64 [p.1, p.2])) = _
  rw [code_key, dc_cd (hps p p1)]
section
variable {K : PySem.W.Frag} {mg : Str → Option Value} {P : Program} {w : World} {E : WX} {m : Mds} {it : Env → Res (List D)} {g : D → Env → Res Env} {c : Env → Res Bool} {f : Env → Res D} {ts vs : List Nat}
/-- the set under way -/
def ScW (K : PySem.W.Frag) (P : Program) (w : World) (g : D → Env → Res Env) (c : Env → Res Bool) (f : Env → Res D) (ρ : Env) (xs ys : List D) (D0 : Addr) (S1 H1 : Hp) (i : Nat) (H : Hp) : Prop :=
  ∃ S2 ls done rest, Step S1 H1 S2 H ∧ S2 D0 = none ∧ H D0 = some (SetTO P w D0 ls) ∧ (∀ p ∈ ls, S2 p.1 = some (.tup (p.2.map V.int))) ∧ (ls.map (·.2)).Nodup ∧ (∀ k, k ∈ ls.map (·.2) ↔ k ∈ (done : List (Int × Int)).map keyP) ∧ ls.length ≤ done.length ∧ lcGo g c f ρ (xs.drop i) = .ok rest ∧ ys = done.map pD ++ rest
theorem pD_rep {S : Hp} {v : V} {p : Int × Int} (h : Rep K mg S v (pD p)) : ∃ t, v = .ref t ∧ S t = some (.tup ((keyP p).map V.int)) := by
  unfold pD at h
  generalize he : D.tup [.int p.1, .int p.2] = d at h
  cases h with
  | @tup a ws ds hq hl hi =>
    injection he with he
    subst he
    refine ⟨_, rfl, ?_⟩
    match ws, hl with
    | [x, y], _ =>
      have h0 := hi 0 x (.int p.1) rfl rfl
      have h1 := hi 1 y (.int p.2) rfl rfl
      cases h0
      cases h1
      exact hq
  | _ => cases he
theorem sc_ok {σ : L2.St} {H : Hp} {Q : VK} (hts : ∀ t ∈ ts, t ∈ vs) (h : tE K mg E m .ow (fSortSc vs it g c f) σ H Q) :
    tSet K P w (tI K mg E m it) (tGD K mg m ts g) (tT K mg EF m c) (tE K mg EF m .sh f) vs σ H (fun x H1 => rSortedT K P w [x] H1 Q) := by
  obtain ⟨S, ρ, hm, hp⟩ := h
  refine ⟨S, ρ, hm, (Post.bind hp).imp fun xs S1 H1 s1 k J w D0 hD => ?_⟩
  split at k
  · rename_i ys eg
    split at k
    · rename_i ps eps
      split at k
      · rename_i h64
        obtain ⟨ey0, hps⟩ := pairsD_some eps
        refine ⟨fun i n H => n = xs.length - i ∧ i ≤ xs.length ∧ ScW K _ _ g c f (wipeD ρ vs) xs ys D0 S1 H1 i H, ⟨xs.length, by simp, Nat.zero_le _, S1, [], [], ys, Step.hid s1.sub hD, s1.sub.free hD, upd_same, (fun _ z => nomatch z), List.nodup_nil, (fun _ => Iff.rfl), Nat.le_refl _, eg, rfl⟩, ?_⟩
        rintro i n H2 ⟨rfl, hi, S2, ls, done, rest, st2, hs2, hd2, rv, nd, mem, hle, el, ey⟩
        by_cases hlt : i < xs.length
        · obtain ⟨hgo, hyl⟩ := w.go i xs[i] S2 H2 (List.getElem?_eq_getElem hlt) st2.ss st2.sub
          refine .inr ⟨hgo, ScW K _ _ g c f (wipeD ρ vs) xs ys D0 S1 H1 (i + 1), fun H' z => ⟨xs.length - (i + 1), by omega, rfl, hlt, z⟩, fun x H3 y => ?_⟩
          obtain ⟨S3, s3, r3⟩ := hyl x H3 y
          rw [List.drop_eq_getElem_cons hlt] at el
          unfold lcGo at el
          split at el
          · rename_i ρ1 eg1
            have st3 := st2.trans s3
            obtain ⟨F, stF⟩ := (((hm.step s1).step st3).wipe vs).bare
            refine ⟨_, _, S3, F, wipeD ρ vs, xs[i], stF, r3, ?_⟩
            rw [eg1]
            intro σ4 S4 F4 H4 st4 s4 hfr
            refine ⟨wipe_eq (by rw [hfr.1, L2.wipe_length]) hfr.2 hts, S4, ρ1, st4.envM, ?_⟩
            split at el
            · rename_i b ec
              rw [ec]
              intro S5 H5 s5
              have a5 := (s3.trans s4).trans s5
              cases b with
              | false =>
                rw [if_neg (by decide)] at el
                show ScW K _ _ g c f (wipeD ρ vs) xs ys D0 S1 H1 (i + 1) H5
                exact ⟨S5, ls, done, rest, st2.trans a5, a5.out hs2 hd2, a5.hh _ _ hd2, fun p hp => a5.ss _ _ (rv p hp), nd, mem, hle, el, ey⟩
              | true =>
                rw [if_pos rfl] at el
                show tE K mg EF m Md.sh f σ4 H5 _
                split at el
                · rename_i y' ef
                  refine ⟨S5, ρ1, (st4.envM).step s5, ?_⟩
                  rw [ef]
                  intro v S6 H6 fp s6 o _ _
                  have a6 := a5.trans s6
                  split at el
                  · rename_i rest' er
                    cases el
                    have epx := eps
                    rw [ey] at epx
                    obtain ⟨p, hp⟩ := pairsD_at epx
                    obtain ⟨e1, hp64⟩ := pairD_some hp
                    have hr : Rep K mg S6 v (pD p) := by rw [← e1]; exact o.1
                    obtain ⟨t, rfl, ht⟩ := pD_rep hr
                    have hlen : ps.length = done.length + (rest'.length + 1) := by
                      have z := congrArg List.length ey0
                      rw [List.length_map, ey] at z
                      simp at z
                      omega
                    have rv6 : ∀ q ∈ ls, S6 q.1 = some (.tup (q.2.map V.int)) := fun q hq => a6.ss _ _ (rv q hq)
                    refine ⟨t, keyP p, ls, rfl, .inl (.inl (s6.sub _ _ ht)), a6.hh _ _ hd2, fun q hq => .inl (.inl (s6.sub _ _ (rv6 q hq))), by omega, fun ls' c1 c2 => ?_⟩
                    refine ⟨S6, ls', done ++ [p], rest', (st2.trans a6).write (a6.out hs2 hd2) hD, a6.out hs2 hd2, upd_same, ?_, ?_, ?_, ?_, er, by rw [ey, e1]; simp⟩
                    all_goals by_cases hk : keyP p ∈ ls.map (·.2)
                    · rw [c1 hk]; exact rv6
                    · intro q hq
                      rcases List.mem_cons.mp ((c2 hk).mem_iff.mp hq) with z | z
                      · rw [z]; exact ht
                      · exact rv6 q z
                    · rw [c1 hk]; exact nd
                    · exact (((c2 hk).map (·.2)).nodup_iff).mpr (List.nodup_cons.mpr ⟨hk, nd⟩)
                    · rw [c1 hk]
                      intro k'
                      rw [List.map_append, List.mem_append]
                      refine ⟨fun z => .inl ((mem k').mp z), fun z => z.elim (mem k').mpr fun z => ?_⟩
                      have : k' = keyP p := by simpa using z
                      rw [this]; exact hk
                    · intro k'
                      rw [((c2 hk).map (·.2)).mem_iff, List.map_append, List.mem_append, List.map_cons, List.mem_cons, mem k']
                      constructor
                      · rintro (z | z)
                        · exact .inr (by rw [z]; simp)
                        · exact .inl z
                      · rintro (z | z)
                        · exact .inr z
                        · exact .inl (by simpa using z)
                    · rw [c1 hk, List.length_append]; omega
                    · rw [(c2 hk).length_eq, List.length_append, List.length_cons]; simp; omega
                  · cases el
                · cases el
            · cases el
          · cases el
        · have e : i = xs.length := by omega
          subst e
          rw [List.drop_length] at el
          cases el
          rw [List.append_nil] at ey
          have hdn : done = ps := by
            have z : done.map pD = ps.map pD := ey.symm.trans ey0
            exact List.map_inj_right (fun a b h => by
              unfold pD at h
              injection h with h
              injection h with h1 h
              injection h1 with h1
              injection h with h2 _
              injection h2 with h2
              exact Prod.ext h1 h2) |>.mp z
          subst hdn
          refine .inl ⟨w.stop S2 H2 st2.ss st2.sub, D0, ls, 2, 64, rfl, hd2, fun q hq => .inl (.inl (st2.sub _ _ (rv q hq))), by decide, fun q hq => ?_, fun L' p pm ndL few pw hpn => ?_⟩
          · obtain ⟨p, p1, p2⟩ := List.mem_map.mp ((mem q.2).mp (List.mem_map_of_mem hq))
            rw [← p2]
            refine ⟨rfl, fun z hz => ?_⟩
            obtain ⟨b1, b2, b3, b4⟩ := hps p p1
            have : z = p.1 ∨ z = p.2 := by simpa [keyP] using hz
            rcases this with rfl | rfl
            · exact ⟨b1, b2⟩
            · exact ⟨b3, b4⟩
          · have es := sorted_members hps (fun k => by rw [(pm.map (·.2)).mem_iff]; exact mem k) ndL pw
            have hp1 : H1 p = none := st2.hh.free hpn
            refine k _ S2 _ [p] (st2.trans (Step.hid st2.sub hpn)) ⟨p, L'.map fun q => V.ref q.1, (sortP done).map pD, rfl, rfl, rfl, st2.sub.free hpn, upd_same, ?_⟩ (by simp) (fun a z => by
              have : a = p := by simpa using z
              rw [this]; exact hp1)
            have el : (sortP done).map pD = L'.map fun q => D.tup (q.2.map D.int) := by
              have : L'.map (fun q => D.tup (q.2.map D.int)) = (L'.map (·.2)).map fun k => D.tup (k.map D.int) := by rw [List.map_map]; rfl
              rw [this, es, List.map_map]
              rfl
            rw [el]
            refine ⟨by rw [List.length_map, List.length_map], fun j v d a b => ?_⟩
            rw [List.getElem?_map] at a b
            cases ej : L'[j]? with
            | none => rw [ej] at a; cases a
            | some q =>
              rw [ej] at a b
              cases a; cases b
              have hq := rv q (pm.mem_iff.mp (List.mem_of_getElem? ej))
              exact Rep.tupL hq ⟨by rw [List.length_map, List.length_map], fun j v d a b => by
                rw [List.getElem?_map] at a b
                cases ez : q.2[j]? with
                | none => rw [ez] at a; cases a
                | some z =>
                  rw [ez] at a b
                  cases a; cases b
                  exact .int z⟩
      · exact k.elim
    · exact k.elim
  · exact k.elim
end
section
variable {X : Cx} {E : WX} {m : Mds} {ts : List Nat} {N0 ps0 : List Str} {sc0 : Scope} {elt tg iter : Expr} {ifs : List Expr} {scope : Scope} {own : List (Str × Nat)} {pos p cpos : Pos} {it : Env → Res (List D)} {g : D → Env → Res Env} {c : Env → Res Bool} {f : Env → Res D}
theorem je_sortSc (Sc : FnScope N0 ps0 sc0) (own : List (Str × Nat)) (hr : RmU X.A) (hmS : X.mg "sorted" = none) (hi : JI X E m tg iter it)
    (hg : ∀ (s : Shared) (H : Hp) (C : Addr) (cl : List (Str × Addr)) (fp : List Addr), JG (X.blk s H scope (compEnvC scope cl C X.env) fp) m ts tg g) (ht : ∀ (s : Shared) (H : Hp) (C : Addr) (cl : List (Str × Addr)) (fp : List Addr), JTs (X.blk s H scope (compEnvC scope cl C X.env) fp) EF m ifs c)
    (he : ∀ (s : Shared) (H : Hp) (C : Addr) (cl : List (Str × Addr)) (fp : List Addr), JE (X.blk s H scope (compEnvC scope cl C X.env) fp) EF m .sh elt f) (hc : X.calm = true := by rfl) (hgS : Gl X "sorted" := by rfl) (hN0 : X.N = N0 := by rfl) (hsc : X.env.scope = sc0 := by rfl) (ok : blkC N0 sc0 scope own = true := by decide +kernel) (hts : ∀ t ∈ ts, t ∈ own.map (·.2) := by decide)
    (hs : ∀ x, foldedSetIterable iter X.env x = pure x := by intro _; rfl)
    (hst : starEach [.SetComp elt [⟨tg, iter, ifs, 0⟩] scope pos] X.env = (false, eval (.SetComp elt [⟨tg, iter, ifs, 0⟩] scope pos) X.env) :: starEach [] X.env := by rfl) :
    JE X E m .ow (.Call (.Name "sorted" p) [.SetComp elt [⟨tg, iter, ifs, 0⟩] scope pos] [] cpos) (fSortSc (own.map (·.2)) it g c f) :=
  ⟨PEimp (pe_callB (cr_sortedT hc) hgS hmS (by decide +kernel) (pa_cons (pe_setT (g := tGD X.K X.mg m ts g) (tt := tT X.K X.mg EF m c) (te := tE X.K X.mg EF m .sh f) (by unfold RmU at hr; omega) hc (by rw [hN0]; exact Sc.nd) hi.pi (blkOk_by (by rw [hN0, hsc]; exact ok)) (fun s H C cl fp => (hg s H C cl fp).pg) (fun s H C cl fp => (ht s H C cl fp).pt) (fun s H C cl fp => (he s H C cl fp).pe) hs) pa_nil hst) (by decide) (by decide) hst (by rfl)) fun σ H Q h => sc_ok hts h⟩
end
end Da
namespace Da
open PySem PySem.Spec L2
section
variable {X : Cx} {E : WX} {m : Mds} {pos : Pos} {x : Str}
def GlobI (mg : Str → Option Value) (x : Str) (i : Int) : Prop := ∃ t, mg x = some (.int i t)
theorem je_globI {i : Int} (h : GlobI X.mg x i) (hg : Gl X x := by rfl) (hdb : (x == ("__debug__" : Str)) = false := by decide) : JE X E m .sh (.Name x pos) (fC (.int i)) := by
  obtain ⟨t, hm⟩ := h
  exact ⟨PEimp (pe_glob (v := .int i) hg hm ⟨t, rfl⟩ hdb) fun σ H Q q => by
    obtain ⟨S, ρ, he, hp⟩ := q
    exact hp.val he.1 (.int i)⟩
theorem globI_mk {mg : Str → Option Value} {i : Int} {t : Tok} (h : mg x = some (.int i t)) : GlobI mg x i := ⟨t, h⟩
end
end Da
namespace Da
open PySem PySem.Spec L2
/-- the mode of an own tree, n deep; .. that is lent and stands at q -/
def mdT : Nat → Md
  | 0 => .sh
  | 1 => .ow
  | n + 2 => .tr (n + 2) none none
def mdL : Nat → Addr → Md
  | 0, _ => .sh
  | 1, q => .owq q
  | n + 2, q => .tr (n + 2) none (some q)
def IsTr (n : Nat) (md : Md) : Prop := md = mdT n ∨ ∃ q, md = mdL n q
section
variable {K : PySem.W.Frag} {mg : Str → Option Value} {m : Mds} {S0 H0 S S' H H' : Hp} {σ : L2.St} {ρ : Env} {F : Nat → List Addr} {fp : List Addr} {v : V} {d : D}
theorem flat_nil : ∀ {fps : List (List Addr)}, (∀ (j : Nat) (f : List Addr), fps[j]? = some f → f = []) → fps.flatten = []
  | [], _ => rfl
  | f :: fps, h => by
    have h0 : f = [] := h 0 f rfl
    have h1 := flat_nil (fps := fps) fun j g e => h (j + 1) g (by simpa using e)
    rw [List.flatten_cons, h0, h1]
    rfl
theorem own1 : OwnTr K mg S H 1 fp v d ↔ ∃ p vs ds, v = .ref p ∧ d = .lst ds ∧ fp = [p] ∧ S p = none ∧ H p = some (.lst vs) ∧ RepL K mg S vs ds := by
  constructor
  · rintro ⟨p, vs, ds, fps, e1, e2, e3, e4, e5, e6, e7, e8⟩
    refine ⟨p, vs, ds, e1, e2, ?_, e4, e5, ⟨e6, fun i w e a b => ?_⟩⟩
    · rw [e3, flat_nil fun j f ej => ?_]
      have hl := (List.getElem?_eq_some_iff.mp ej).1
      exact (e8 j _ _ f (List.getElem?_eq_getElem (by omega)) (List.getElem?_eq_getElem (by omega)) ej).2
    · have hl := (List.getElem?_eq_some_iff.mp b).1
      exact (e8 i w e _ a b (List.getElem?_eq_getElem (l := fps) (by omega))).1
  · rintro ⟨p, vs, ds, e1, e2, e3, e4, e5, e6⟩
    refine ⟨p, vs, ds, List.replicate ds.length [], e1, e2, ?_, e4, e5, e6.len, by simp, fun j w e f a b c => ?_⟩
    · rw [e3, flat_nil]
      intro j f ej
      rw [List.getElem?_replicate] at ej
      split at ej
      · cases ej; rfl
      · cases ej
    · rw [List.getElem?_replicate] at c
      split at c
      · cases c; exact ⟨e6.at_ j w e a b, rfl⟩
      · cases c
theorem mdT_own : ∀ {n : Nat}, OwnAt K mg S H fp v d (mdT n) ↔ OwnTr K mg S H n fp v d
  | 0 => Iff.rfl
  | 1 => own1.symm
  | n + 2 => ⟨fun h => h.2, fun h => ⟨(fun q z => nomatch z), h⟩⟩
theorem mdL_own : ∀ {n : Nat} {q : Addr}, OwnAt K mg S H fp v d (mdL (n + 1) q) ↔ v = .ref q ∧ OwnTr K mg S H (n + 1) fp v d
  | 0, q => ⟨fun h => ⟨h.1, own1.mpr h.2⟩, fun h => ⟨h.1, own1.mp h.2⟩⟩
  | n + 1, q => ⟨fun h => ⟨h.1 q rfl, h.2⟩, fun h => ⟨fun q' z => by cases z; exact h.1, h.2⟩⟩
theorem IsTr.own {n : Nat} {md : Md} (hmd : IsTr (n + 1) md) (h : OwnAt K mg S H fp v d md) : OwnTr K mg S H (n + 1) fp v d := by
  rcases hmd with hmd | ⟨q, hmd⟩
  · rw [hmd] at h; exact mdT_own.mp h
  · rw [hmd] at h; exact (mdL_own.mp h).2
/-- the same thing, changed -/
theorem IsTr.back {n : Nat} {md : Md} {fp' : List Addr} {d' : D} (hmd : IsTr (n + 1) md) (h : OwnAt K mg S H fp v d md) (k : OwnTr K mg S' H' (n + 1) fp' v d') : OwnAt K mg S' H' fp' v d' md := by
  rcases hmd with hmd | ⟨q, hmd⟩
  · rw [hmd]; exact mdT_own.mpr k
  · rw [hmd] at h ⊢; exact mdL_own.mpr ⟨(mdL_own.mp h).1, k⟩
theorem OwnTr.agree : ∀ {n : Nat} {fp : List Addr} {v : V} {d : D}, (∀ a, a ∈ fp → H' a = H a) → OwnTr K mg S H n fp v d → OwnTr K mg S H' n fp v d
  | 0, _, _, _, _, h => h
  | n + 1, _, _, _, hf, h => by
    obtain ⟨q, vs, ds, fps, e1, e2, e3, e4, e5, e6, e7, e8⟩ := h
    exact ⟨q, vs, ds, fps, e1, e2, e3, e4, by rw [hf q (by rw [e3]; exact List.mem_cons_self)]; exact e5, e6, e7, fun j w e f x y z => (e8 j w e f x y z).agree fun a ha => hf a (by rw [e3]; exact List.mem_cons_of_mem _ (flat_mem z ha))⟩
theorem OwnAt.agree {md : Md} (hf : ∀ a, a ∈ fp → H' a = H a) (h : OwnAt K mg S H fp v d md) : OwnAt K mg S H' fp v d md := by
  cases md with
  | owq q0 =>
    obtain ⟨e0, p, vs, ds, e1, e2, e3, e4, e5, e6⟩ := h
    exact ⟨e0, p, vs, ds, e1, e2, e3, e4, by rw [hf p (by rw [e3]; exact List.mem_cons_self)]; exact e5, e6⟩
  | tr n b at_ =>
    cases b with
    | none => exact ⟨h.1, h.2.agree hf⟩
    | some kq =>
      obtain ⟨h0, p, vs, ds, fps, e1, e2, e3, e4, e5, e6, e7, h1, h2, h3, e8⟩ := h
      exact ⟨h0, p, vs, ds, fps, e1, e2, e3, e4, by rw [hf p (by rw [e3]; exact List.mem_cons_self)]; exact e5, e6, e7, h1, h2, h3, fun j w e f i x y z => (e8 j w e f i x y z).agree fun a ha => hf a (by rw [e3]; exact List.mem_cons_of_mem _ (flat_mem z ha))⟩
  | ex a0 b0 c0 => exact h
  | sh => exact h
  | ow =>
    obtain ⟨p, vs, ds, e1, e2, e3, e4, e5, e6⟩ := h
    exact ⟨p, vs, ds, e1, e2, e3, e4, by rw [hf p (by rw [e3]; exact List.mem_cons_self)]; exact e5, e6⟩
  | ow2 =>
    obtain ⟨q, ps, dss, e1, e2, e3, e4, e5, e6, e7⟩ := h
    refine ⟨q, ps, dss, e1, e2, e3, e4, by rw [hf q (by rw [e3]; exact List.mem_cons_self)]; exact e5, e6, fun j r ds x y => ?_⟩
    obtain ⟨z1, vs, z2, z3⟩ := e7 j r ds x y
    exact ⟨z1, vs, by rw [hf r (by rw [e3]; exact List.mem_cons_of_mem _ (List.mem_of_getElem? x))]; exact z2, z3⟩
  | dk =>
    obtain ⟨p, vs, ds, e1, e2, e3, e4, e5, e6⟩ := h
    exact ⟨p, vs, ds, e1, e2, e3, e4, by rw [hf p (by rw [e3]; exact List.mem_cons_self)]; exact e5, e6⟩
  | dt =>
    obtain ⟨p, vs, ds, e1, e2, e3, e4, e5, e6⟩ := h
    exact ⟨p, vs, ds, e1, e2, e3, e4, by rw [hf p (by rw [e3]; exact List.mem_cons_self)]; exact e5, e6⟩
  | ob q =>
    obtain ⟨dx, C, c, fs, ds, e1, e2, e3, e4, e5, e6, e7, e8, e9⟩ := h
    exact ⟨dx, C, c, fs, ds, e1, e2, e3, e4, e5, e6, by rw [hf q (by rw [e3]; exact List.mem_cons_self)]; exact e7, by rw [hf dx (by rw [e3]; exact List.mem_cons_of_mem _ List.mem_cons_self)]; exact e8, e9⟩
/-- slot i's thing is changed in its own place, with what is new -/
theorem StF.put {i : Nat} {d0 d1 : D} {fp' : List Addr} (st : StF K mg m S0 H0 S F σ ρ H) (hρ : ρ[i]? = some (some d0)) (hσ : σ[i]? = some (some v)) (hch : ∀ a, a ∉ F i → H' a = H a)
    (o : OwnAt K mg S H' fp' v d1 (mdAt m i)) (hn : fp'.Nodup) (hf : ∀ a, a ∈ fp' → a ∈ F i ∨ (H0 a = none ∧ ∀ j d, j ≠ i → ρ[j]? = some (some d) → a ∉ F j)) :
    StF K mg m S0 H0 S (F_set F i fp') σ (ρ.set i (some d1)) H' := by
  obtain ⟨s, en, nw⟩ := st
  have hil : i < ρ.length := (List.getElem?_eq_some_iff.mp hρ).1
  have key : ∀ j d', (ρ.set i (some d1))[j]? = some (some d') → (j = i ∧ d' = d1) ∨ (j ≠ i ∧ ρ[j]? = some (some d')) := fun j d' ej => by
    by_cases hj : j = i
    · subst hj
      rw [List.getElem?_set_self hil] at ej
      injection ej with z; injection z with z
      exact .inl ⟨rfl, z.symm⟩
    · rw [List.getElem?_set_ne (Ne.symm hj)] at ej
      exact .inr ⟨hj, ej⟩
  obtain ⟨v0, ev0, o0⟩ := en.at_ i d0 hρ
  have apart : ∀ j d', j ≠ i → ρ[j]? = some (some d') → ∀ a, a ∈ fp' → a ∉ F j := fun j d' hj ej a ha => by
    rcases hf a ha with z | z
    · exact en.apart i j _ d' (Ne.symm hj) hρ ej a z
    · exact z.2 j d' hj ej
  refine ⟨⟨fun a u ea => ?_, s.ss, fun a u ea => ?_, s.new⟩, ⟨by rw [List.length_set]; exact en.len, fun j d' ej => ?_, fun j d' ej => ?_, fun j k a b hjk e1 e2 => ?_⟩, fun j d' ej => ?_⟩
  · rw [hch a (fun z => by rw [nw i _ hρ a z] at ea; cases ea)]
    exact s.hh a u ea
  · rw [hch a (fun z => by rw [(o0.out z).1] at ea; cases ea)]
    exact s.sub a u ea
  · rcases key j d' ej with ⟨rfl, rfl⟩ | ⟨hj, ej'⟩
    · exact ⟨v, hσ, by rw [F_at]; exact o⟩
    · obtain ⟨w, e1, o1⟩ := en.at_ j d' ej'
      rw [F_off hj]
      exact ⟨w, e1, o1.agree fun a ha => hch a (en.apart j i d' _ hj ej' hρ a ha)⟩
  · rcases key j d' ej with ⟨rfl, rfl⟩ | ⟨hj, ej'⟩
    · rw [F_at]; exact hn
    · rw [F_off hj]; exact en.nd j d' ej'
  · rcases key j a e1 with ⟨rfl, rfl⟩ | ⟨hj, e1'⟩
    · rcases key k b e2 with ⟨z, _⟩ | ⟨hk, e2'⟩
      · exact absurd z.symm hjk
      · rw [F_at, F_off hk]; exact apart k b hk e2'
    · rcases key k b e2 with ⟨rfl, rfl⟩ | ⟨hk, e2'⟩
      · rw [F_at, F_off hj]; exact fun x hx z => apart j a hj e1' x z hx
      · rw [F_off hj, F_off hk]; exact en.apart j k a b hjk e1' e2'
  · rcases key j d' ej with ⟨rfl, rfl⟩ | ⟨hj, ej'⟩
    · rw [F_at]; intro a ha
      rcases hf a ha with z | z
      · exact nw _ _ hρ a z
      · exact z.1
    · rw [F_off hj]; exact nw j d' ej'
/-- what is known of an own tree -/
theorem StF.ownT {i n : Nat} (st : StF K mg m S0 H0 S F σ ρ H) (hmd : IsTr (n + 1) (mdAt m i)) (hρ : ρ[i]? = some (some d)) :
    ∃ v, σ[i]? = some (some v) ∧ OwnAt K mg S H (F i) v d (mdAt m i) ∧ OwnTr K mg S H (n + 1) (F i) v d ∧ (F i).Nodup := by
  obtain ⟨v, e1, o⟩ := st.2.1.at_ i d hρ
  exact ⟨v, e1, o, hmd.own o, st.2.1.nd i d hρ⟩
theorem set_flat {fps : List (List Addr)} {k : Nat} {f g : List Addr} (hk : fps[k]? = some f) (a : Addr) : a ∈ (fps.set k g).flatten ↔ a ∈ g ∨ ∃ j h, j ≠ k ∧ fps[j]? = some h ∧ a ∈ h := by
  have hkl := (List.getElem?_eq_some_iff.mp hk).1
  constructor
  · intro h
    obtain ⟨j, f', hj, ha⟩ := mem_flat h
    by_cases hjk : j = k
    · subst hjk
      rw [List.getElem?_set_self hkl] at hj
      cases hj
      exact .inl ha
    · rw [List.getElem?_set_ne (Ne.symm hjk)] at hj
      exact .inr ⟨j, f', hjk, hj, ha⟩
  · rintro (h | ⟨j, f', hjk, hj, ha⟩)
    · exact flat_mem (j := k) (List.getElem?_set_self hkl) h
    · exact flat_mem (j := j) (by rw [List.getElem?_set_ne (Ne.symm hjk)]; exact hj) ha
theorem nd_split : ∀ {fps : List (List Addr)} {k : Nat} {f : List Addr}, fps[k]? = some f → (fps.flatten.Nodup ↔ f.Nodup ∧ (fps.set k []).flatten.Nodup ∧ ∀ a, a ∈ f → a ∉ (fps.set k []).flatten)
  | [], k, f, h => by simp at h
  | g :: fps, 0, f, h => by
    cases h
    simp only [List.set_cons_zero, List.flatten_cons, List.nil_append]
    rw [List.nodup_append]
    exact ⟨fun ⟨a, b, c⟩ => ⟨a, b, fun x hx hy => c x hx x hy rfl⟩, fun ⟨a, b, c⟩ => ⟨a, b, fun x hx y hy z => c x hx (by rw [z]; exact hy)⟩⟩
  | g :: fps, k + 1, f, h => by
    have h' : fps[k]? = some f := by simpa using h
    have ih := nd_split h'
    simp only [List.set_cons_succ, List.flatten_cons]
    rw [List.nodup_append, List.nodup_append, ih]
    have hkl := (List.getElem?_eq_some_iff.mp h').1
    have mem : ∀ a, a ∈ fps.flatten ↔ a ∈ f ∨ a ∈ (fps.set k []).flatten := fun a => by
      have e : fps.set k f = fps := by
        refine List.ext_getElem? fun j => ?_
        rw [List.getElem?_set]
        split
        · rename_i hj; subst hj; first | (rw [if_pos hkl, h']) | exact h'.symm
        · rfl
      have := set_flat (g := f) h' a
      rw [e] at this
      have t2 := set_flat (g := []) h' a
      rw [this, t2]
      simp
    constructor
    · rintro ⟨a, ⟨b, c, dd⟩, e⟩
      refine ⟨b, ⟨a, c, fun x hx y hy => e x hx y ((mem y).mpr (.inr hy))⟩, fun x hx hy => ?_⟩
      rcases List.mem_append.mp hy with z | z
      · exact e x z x ((mem x).mpr (.inl hx)) rfl
      · exact dd x hx z
    · rintro ⟨b, ⟨a, c, e⟩, dd⟩
      refine ⟨a, ⟨b, c, fun x hx hy => dd x hx (List.mem_append_right _ hy)⟩, fun x hx y hy z => ?_⟩
      rcases (mem y).mp hy with w | w
      · exact dd y w (List.mem_append_left _ (by rw [← z]; exact hx))
      · exact e x hx y w z
/-- an inner thing is replaced by one of one's own -/
theorem OwnTr.setT {n k : Nat} {p : Addr} {vs : List V} {ds : List D} {fps : List (List Addr)} {w : V} {e : D} {f g : List Addr}
    (sp : S p = none) (h6 : vs.length = ds.length) (h7 : fps.length = ds.length) (h8 : ∀ (j : Nat) (w : V) (e : D) (f : List Addr), j ≠ k → vs[j]? = some w → ds[j]? = some e → fps[j]? = some f → OwnTr K mg S H n f w e)
    (hp : H p = some (.lst (vs.set k w))) (o : OwnTr K mg S H n g w e) (hk : k < ds.length) : OwnTr K mg S H (n + 1) (p :: (fps.set k g).flatten) (.ref p) (.lst (ds.set k e)) := by
  refine ⟨p, vs.set k w, ds.set k e, fps.set k g, rfl, rfl, rfl, sp, hp, by simp [h6], by simp [h7], fun j w' e' f' a b c => ?_⟩
  by_cases hj : j = k
  · subst hj
    rw [List.getElem?_set_self (by omega)] at a b c
    cases a; cases b; cases c
    exact o
  · rw [List.getElem?_set_ne (Ne.symm hj)] at a b c
    exact h8 j w' e' f' hj a b c
end
section
variable {K : PySem.W.Frag} {mg : Str → Option Value} {E : WX} {m : Mds} {it : Env → Res (List D)} {g : D → Env → Res Env} {c : Env → Res Bool} {f : Env → Res D} {ts vs : List Nat}
/-- the list of new trees under way -/
def LcT (K : PySem.W.Frag) (mg : Str → Option Value) (n : Nat) (g : D → Env → Res Env) (c : Env → Res Bool) (f : Env → Res D) (ρ : Env) (xs ys : List D) (D0 : Addr) (S1 H1 : Hp) (i : Nat) (H : Hp) : Prop :=
  ∃ (S2 : Hp) (ws : List V) (ds : List D) (fps : List (List Addr)) (rest : List D), Step S1 H1 S2 H ∧ S2 D0 = none ∧ H D0 = some (.lst ws) ∧ ws.length = ds.length ∧ fps.length = ds.length ∧
    (∀ (j : Nat) (w : V) (e : D) (f : List Addr), ws[j]? = some w → ds[j]? = some e → fps[j]? = some f → OwnTr K mg S2 H n f w e) ∧
    (D0 :: fps.flatten).Nodup ∧ (∀ q, q ∈ fps.flatten → H1 q = none) ∧ lcGo g c f ρ (xs.drop i) = .ok rest ∧ ys = ds ++ rest ∧ ds.length ≤ i
theorem flat_snoc {fps : List (List Addr)} {g : List Addr} : (fps ++ [g]).flatten = fps.flatten ++ g := by simp
theorem lcT_ok {n : Nat} {σ : L2.St} {H : Hp} {Q : VK} (hts : ∀ t ∈ ts, t ∈ vs) (h : tE K mg E m (mdT (n + 1)) (fLc vs it g c f) σ H Q) :
    tLc (tI K mg E m it) (tGD K mg m ts g) (tT K mg EF m c) (tE K mg EF m (mdT n) f) vs σ H Q := by
  obtain ⟨S, ρ, hm, hp⟩ := h
  refine ⟨S, ρ, hm, (Post.bind hp).imp fun xs S1 H1 s1 k J w D0 hD => ?_⟩
  split at k
  rotate_left
  · exact k.elim
  rename_i hz
  have hz := szOk_ok hz
  cases eg : lcGo g c f (wipeD ρ vs) xs with
  | ex c' fs => rw [eg] at k; exact k.elim
  | er => rw [eg] at k; exact k.elim
  | ok ys =>
    rw [eg] at k
    have k : Post K mg (WE E σ) S1 H1 (mdT (n + 1)) (.ok (.lst ys)) Q := k
    refine ⟨fun i u H => u = xs.length - i ∧ i ≤ xs.length ∧ LcT K mg n g c f (wipeD ρ vs) xs ys D0 S1 H1 i H, ⟨xs.length, by simp, Nat.zero_le _, S1, [], [], [], ys, Step.hid s1.sub hD, s1.sub.free hD, upd_same, rfl, rfl, (fun j w e f a _ _ => by simp at a), (by simp), (fun q hq => by simp at hq), eg, rfl, Nat.le_refl _⟩, ?_⟩
    rintro i u H2 ⟨rfl, hi, S2, ws, ds, fps, rest, st2, hs2, hd2, hl, hfl, hin, hnd, hnew, el, ey, hn⟩
    by_cases hlt : i < xs.length
    · obtain ⟨hgo, hyl⟩ := w.go i xs[i] S2 H2 (List.getElem?_eq_getElem hlt) st2.ss st2.sub
      refine .inr ⟨hgo, LcT K mg n g c f (wipeD ρ vs) xs ys D0 S1 H1 (i + 1), fun H' z => ⟨xs.length - (i + 1), by omega, rfl, hlt, z⟩, fun x H3 y => ?_⟩
      obtain ⟨S3, s3, r3⟩ := hyl x H3 y
      rw [List.drop_eq_getElem_cons hlt] at el
      unfold lcGo at el
      cases eg1 : g xs[i] (wipeD ρ vs) with
      | ex c' fs => rw [eg1] at el; cases el
      | er => rw [eg1] at el; cases el
      | ok ρ1 =>
        rw [eg1] at el
        simp only at el
        have st3 := st2.trans s3
        obtain ⟨F, stF⟩ := (((hm.step s1).step st3).wipe vs).bare
        refine ⟨_, _, S3, F, wipeD ρ vs, xs[i], stF, r3, ?_⟩
        rw [eg1]
        intro σ4 S4 F4 H4 st4 s4 hfr
        refine ⟨wipe_eq (by rw [hfr.1, L2.wipe_length]) hfr.2 hts, S4, ρ1, st4.envM, ?_⟩
        cases ec : c ρ1 with
        | ex c' fs => rw [ec] at el; cases el
        | er => rw [ec] at el; cases el
        | ok b =>
          rw [ec] at el
          simp only at el
          intro S5 H5 s5
          have a5 := (s3.trans s4).trans s5
          cases b with
          | false =>
            rw [if_neg (by decide)] at el
            show LcT K mg n g c f (wipeD ρ vs) xs ys D0 S1 H1 (i + 1) H5
            exact ⟨S5, ws, ds, fps, rest, st2.trans a5, a5.out hs2 hd2, a5.hh _ _ hd2, hl, hfl, fun j w e f x y z => (hin j w e f x y z).step a5, hnd, hnew, el, ey, by omega⟩
          | true =>
            rw [if_pos rfl] at el
            show tE K mg EF m (mdT n) f σ4 H5 _
            refine ⟨S5, ρ1, (st4.envM).step s5, ?_⟩
            cases ef : f ρ1 with
            | ex c' fs => rw [ef] at el; cases el
            | er => rw [ef] at el; cases el
            | ok y' =>
              rw [ef] at el
              simp only at el
              intro v S6 H6 fp s6 o hfn hf
              have o := mdT_own.mp o
              have a6 := a5.trans s6
              cases er : lcGo g c f (wipeD ρ vs) (xs.drop (i + 1)) with
              | ex c' fs => rw [er] at el; cases el
              | er => rw [er] at el; cases el
              | ok rest' =>
                rw [er] at el
                cases el
                have old : ∀ a, a ∈ fps.flatten → ∃ o, H5 a = some o := fun a ha => by
                  obtain ⟨j, f', hj, hfj⟩ := mem_flat ha
                  have hjl := (List.getElem?_eq_some_iff.mp hj).1
                  obtain ⟨_, o', ho'⟩ := (hin j _ _ f' (List.getElem?_eq_getElem (by omega)) (List.getElem?_eq_getElem (by omega)) hj).out hfj
                  exact ⟨o', a5.hh _ _ ho'⟩
                have hDf : D0 ∉ fp := fun z => by
                  have := hf D0 z
                  rw [a5.hh _ _ hd2] at this
                  cases this
                have hDp : D0 ∉ fps.flatten := (List.nodup_cons.mp hnd).1
                refine ⟨ws, a6.hh _ _ hd2, by omega, S6, ws ++ [v], ds ++ [y'], fps ++ [fp], rest', (st2.trans a6).write (a6.out hs2 hd2) hD, a6.out hs2 hd2, ?_, by simp [hl], by simp [hfl], fun j w e f' x y z => ?_, ?_, fun q hq => ?_, er, by rw [ey]; simp, by simp; omega⟩
                · rw [upd_same]
                · by_cases hj : j < ds.length
                  · rw [List.getElem?_append_left (by omega)] at x y z
                    exact ((hin j w e f' x y z).step a6).agree fun a ha => by
                      rw [upd_ne fun zz => hDp (by rw [← zz]; exact flat_mem z ha)]
                  · have hjl := (List.getElem?_eq_some_iff.mp y).1
                    rw [List.length_append] at hjl
                    have : j = ds.length := by simp at hjl; omega
                    subst this
                    rw [List.getElem?_concat_length] at y
                    rw [← hl, List.getElem?_concat_length] at x
                    rw [← hfl, List.getElem?_concat_length] at z
                    cases x; cases y; cases z
                    exact o.agree fun a ha => by rw [upd_ne fun zz => hDf (by rw [← zz]; exact ha)]
                · rw [flat_snoc, List.nodup_cons]
                  rw [List.nodup_cons] at hnd
                  refine ⟨fun z => ?_, ?_⟩
                  · rcases List.mem_append.mp z with z | z
                    · exact hDp z
                    · exact hDf z
                  · rw [List.nodup_append]
                    refine ⟨hnd.2, hfn, fun a ha b hb z => ?_⟩
                    obtain ⟨o', ho'⟩ := old a ha
                    rw [z, hf b hb] at ho'
                    cases ho'
                · rw [flat_snoc] at hq
                  rcases List.mem_append.mp hq with z | z
                  · exact hnew q z
                  · exact (st2.trans a5).hh.free (hf q z)
    · have e : i = xs.length := by omega
      subst e
      rw [List.drop_length] at el
      cases el
      rw [List.append_nil] at ey
      subst ey
      refine .inl ⟨w.stop S2 H2 st2.ss st2.sub, k _ S2 H2 (D0 :: fps.flatten) st2 (mdT_own.mpr ⟨D0, ws, ys, fps, rfl, rfl, rfl, hs2, hd2, hl, hfl, hin⟩) hnd (fun a z => ?_)⟩
      rcases List.mem_cons.mp z with z | z
      · rw [z]; exact hD
      · exact hnew a z
end
end Da
namespace Da
open PySem PySem.Spec L2
section
variable {X : Cx} {E : WX} {L : Lp} {m : Mds} {ts : List Nat} {N0 ps0 : List Str} {sc0 : Scope} {elt tg iter e j e2 j2 : Expr} {ifs : List Expr} {scope : Scope} {pos p1 p2 p3 p4 : Pos} {it : Env → Res (List D)} {g : D → Env → Res Env} {c : Env → Res Bool} {f fj fj2 : Env → Res D} {x : Str}
theorem js_setLcT (n : Nat) (i : Nat) {md1 md2 : Md} {y : Str} {py spos : Pos} (Sc : FnScope N0 ps0 sc0) (own : List (Str × Nat)) (hi : JI X E m tg iter it)
    (hg : ∀ (s : Shared) (H : Hp) (C : Addr) (cl : List (Str × Addr)) (fp : List Addr), JG (X.blk s H scope (compEnvC scope cl C X.env) fp) m ts tg g) (ht : ∀ (s : Shared) (H : Hp) (C : Addr) (cl : List (Str × Addr)) (fp : List Addr), JTs (X.blk s H scope (compEnvC scope cl C X.env) fp) EF m ifs c) (he : ∀ (s : Shared) (H : Hp) (C : Addr) (cl : List (Str × Addr)) (fp : List Addr), JE (X.blk s H scope (compEnvC scope cl C X.env) fp) EF m md1 elt f) (h1 : md1 = mdT n := by rfl) (h2 : md2 = mdT (n + 1) := by rfl) (hl : i < m.length := by first | decide | simp) (hy : X.N[i]? = some y := by rfl) (hyl : X.env.scope.names.lookup y = some .local := by rfl)
    (hsw : swapsWith (.ListComp elt [⟨tg, iter, ifs, 0⟩] scope pos) (some (.Name y py)) spos.line X.env = pure true := by rfl) (hc : X.calm = true := by rfl) (hN0 : X.N = N0 := by rfl) (hsc : X.env.scope = sc0 := by rfl) (ok : blkC N0 sc0 scope own = true := by decide +kernel) (hts : ∀ t ∈ ts, t ∈ own.map (·.2) := by decide)
    (hs : ∀ x, foldedSetIterable iter X.env x = pure x := by intro _; rfl) : JS X E L m (m.set i md2) (.Assign [.Name y py] (.ListComp elt [⟨tg, iter, ifs, 0⟩] scope pos) spos) (fSet i (fLc (own.map (·.2)) it g c f)) := by
  subst h1 h2
  refine ⟨PSimp (ps_setLc (g := tGD X.K X.mg m ts g) (tt := tT X.K X.mg EF m c) (te := tE X.K X.mg EF m (mdT n) f) hc (by rw [hN0]; exact Sc.nd) hy hyl hsw hi.pi (blkOk_by (by rw [hN0, hsc]; exact ok)) (fun s H C cl fp => (hg s H C cl fp).pg) (fun s H C cl fp => (ht s H C cl fp).pt) (fun s H C cl fp => (he s H C cl fp).pe) hs) fun D σ H h => ?_⟩
  obtain ⟨S0, H0, ρ, ⟨S, Fp, st⟩, p⟩ := h
  refine lcT_ok hts ⟨S, ρ, st.envM, (lift_post st p).postM fun d v S1 H1 fp s1 o hn hf k => ?_⟩
  refine k _ _ (StF.stM ((st.step s1).set hl o hn (fun a ha => st.1.hh.free (hf a ha)) fun j e' hj ej a ha z => ?_))
  obtain ⟨w, _, o'⟩ := st.2.1.at_ j e' ej
  obtain ⟨_, u, hu⟩ := o'.out ha
  rw [hf a z] at hu
  cases hu
/-- [] as a tree of any depth -/
theorem je_lstT (n : Nat) {md : Md} (h : md = mdT (n + 1) := by rfl) : JE X E m md (.List [] pos) (fOn gLstD fA0) := by
  subst h
  refine ⟨PEimp (pe_lst pa_nil) fun σ H Q h => ?_⟩
  obtain ⟨S, ρ, hm, hp⟩ := h
  exact ⟨by simp, fun p hn => hp _ S _ [p] (Step.hid hm.1 hn) (mdT_own.mpr ⟨p, [], [], [], rfl, rfl, rfl, hm.1.free hn, upd_same, rfl, rfl, fun j w e f a => by simp at a⟩) (by simp) (fun a z => by
    have : a = p := by simpa using z
    rw [this]; exact hn)⟩
/-- new addresses that a tree takes in -/
theorem new_apart {K : PySem.W.Frag} {mg : Str → Option Value} {m : Mds} {S0 H0 S H : Hp} {σ : L2.St} {ρ : Env} {F : Nat → List Addr} {fp : List Addr} (st : StF K mg m S0 H0 S F σ ρ H) (hf : ∀ a, a ∈ fp → H a = none) {a : Addr} (ha : a ∈ fp) : H0 a = none ∧ ∀ j d, ρ[j]? = some (some d) → a ∉ F j :=
  ⟨st.1.hh.free (hf a ha), fun j d ej z => by
    obtain ⟨w, _, o⟩ := st.2.1.at_ j d ej
    obtain ⟨_, u, hu⟩ := o.out z
    rw [hf a ha] at hu
    cases hu⟩
theorem OwnTr.app {K : PySem.W.Frag} {mg : Str → Option Value} {S H : Hp} {n : Nat} {f fp : List Addr} {v w : V} {us : List D} {d : D} (h : OwnTr K mg S H (n + 1) f v (.lst us)) (nd : f.Nodup) (on : OwnTr K mg S H n fp w d) (hn : fp.Nodup) (hx : ∀ a, a ∈ fp → a ∉ f) :
    ∃ (q : Addr) (ws : List V), v = .ref q ∧ H q = some (.lst ws) ∧ ws.length = us.length ∧ q ∈ f ∧ ∃ f', OwnTr K mg S (upd H q (.lst (ws ++ [w]))) (n + 1) f' v (.lst (us ++ [d])) ∧ f'.Nodup ∧ ∀ a, a ∈ f' → a ∈ f ∨ a ∈ fp := by
  obtain ⟨q, ws, ds, fps, eq, eds, ef, sq, hq, hl, hfl, hin⟩ := h
  cases eq; cases eds
  have hqf : q ∈ f := by rw [ef]; exact List.mem_cons_self
  have hqn : q ∉ fp := fun z => hx q z hqf
  have nd2 := nd
  rw [ef, List.nodup_cons] at nd2
  have q0 : ∀ a, a ∈ fps.flatten → a ≠ q := fun a ha z => nd2.1 (by rw [← z]; exact ha)
  refine ⟨q, ws, rfl, hq, hl, hqf, q :: (fps ++ [fp]).flatten, ⟨q, ws ++ [w], us ++ [d], fps ++ [fp], rfl, rfl, rfl, sq, upd_same, by simp [hl], by simp [hfl], fun j w' e' f' a b c => ?_⟩, ?_, fun a ha => ?_⟩
  · by_cases hj : j < us.length
    · rw [List.getElem?_append_left (by omega)] at a b c
      exact (hin j w' e' f' a b c).agree fun z hz => upd_ne (q0 z (flat_mem c hz))
    · have hjl := (List.getElem?_eq_some_iff.mp b).1
      rw [List.length_append] at hjl
      have : j = us.length := by simp at hjl; omega
      subst this
      rw [List.getElem?_concat_length] at b
      rw [← hl, List.getElem?_concat_length] at a
      rw [← hfl, List.getElem?_concat_length] at c
      cases a; cases b; cases c
      exact on.agree fun z hz => upd_ne fun zz => hqn (by rw [← zz]; exact hz)
  · rw [flat_snoc, List.nodup_cons]
    refine ⟨fun z => ?_, ?_⟩
    · rcases List.mem_append.mp z with z | z
      · exact nd2.1 z
      · exact hqn z
    · rw [List.nodup_append]
      exact ⟨nd2.2, hn, fun a ha b hb z => hx b hb (by rw [ef, ← z]; exact List.mem_cons_of_mem _ ha)⟩
  · rw [flat_snoc] at ha
    rcases List.mem_cons.mp ha with rfl | ha
    · exact .inl hqf
    · rcases List.mem_append.mp ha with z | z
      · exact .inl (by rw [ef]; exact List.mem_cons_of_mem _ z)
      · exact .inr z
/-- a list within the tree of slot i is changed in its place -/
theorem inner_change {K : PySem.W.Frag} {mg : Str → Option Value} {m : Mds} {S0 H0 S H H' : Hp} {σ : L2.St} {ρ : Env} {F : Nat → List Addr} {n i k : Nat} {p : Addr} {vs : List V} {xs : List D} {fps : List (List Addr)} {w : V} {d' : D} {f f' fp : List Addr}
    (st : StF K mg m S0 H0 S F σ ρ H) (hmd : IsTr (n + 1) (mdAt m i)) (exs : ρ[i]? = some (some (.lst xs))) (e1 : σ[i]? = some (some (.ref p))) (oa : OwnAt K mg S H (F i) (.ref p) (.lst xs) (mdAt m i)) (ef : F i = p :: fps.flatten) (sp : S p = none) (hp : H p = some (.lst vs)) (hl : vs.length = xs.length) (hfl : fps.length = xs.length)
    (hin : ∀ (j : Nat) (w : V) (e : D) (f : List Addr), vs[j]? = some w → xs[j]? = some e → fps[j]? = some f → OwnTr K mg S H n f w e) (hw : vs[k]? = some w) (hf : fps[k]? = some f) (hch : ∀ a, a ∉ f → H' a = H a)
    (on : OwnTr K mg S H' n f' w d') (hn : f'.Nodup) (hf' : ∀ a, a ∈ f' → a ∈ f ∨ a ∈ fp) (hnew : ∀ a, a ∈ fp → H0 a = none ∧ ∀ j d, ρ[j]? = some (some d) → a ∉ F j) :
    StM K mg m S0 H0 σ (ρ.set i (some (.lst (xs.set k d')))) H' := by
  have nd := st.2.1.nd i _ exs
  have nd2 := nd
  rw [ef, List.nodup_cons, nd_split hf] at nd2
  have hk : k < xs.length := by have := (List.getElem?_eq_some_iff.mp hw).1; omega
  have ff : ∀ a, a ∈ f → a ∈ fps.flatten := fun a ha => flat_mem hf ha
  have hpf : p ∉ f := fun z => nd2.1 (ff p z)
  have up : ∀ a, a ∈ (fps.set k f').flatten → a ∈ f' ∨ a ∈ (fps.set k []).flatten := fun a ha => by
    rcases (set_flat hf a).mp ha with z | z
    · exact .inl z
    · exact .inr ((set_flat hf a).mpr (.inr z))
  have dn : ∀ a, a ∈ (fps.set k []).flatten → a ∈ fps.flatten := fun a ha => by
    rcases (set_flat hf a).mp ha with z | ⟨j, h, _, z1, z2⟩
    · cases z
    · exact flat_mem z1 z2
  have ap : ∀ a, a ∈ f' → a ∉ (fps.set k []).flatten := fun a ha hb => by
    rcases hf' a ha with z | z
    · exact nd2.2.2.2 a z hb
    · exact (hnew a z).2 i _ exs (by rw [ef]; exact List.mem_cons_of_mem _ (dn a hb))
  have evs : vs.set k w = vs := by
    refine List.ext_getElem? fun j => ?_
    rw [List.getElem?_set]
    split
    · rename_i hj; subst hj; rw [if_pos (by omega)]; exact hw.symm
    · rfl
  have ow : OwnAt K mg S H' (p :: (fps.set k f').flatten) (.ref p) (.lst (xs.set k d')) (mdAt m i) := by
    refine hmd.back oa (OwnTr.setT (f := []) (w := w) sp hl hfl (fun j w' e g hj a b c => (hin j w' e g a b c).agree fun z hz => hch z fun zz => ?_) (by rw [evs, hch p hpf]; exact hp) on hk)
    exact nd2.2.2.2 z zz ((set_flat hf z).mpr (.inr ⟨j, g, hj, c, hz⟩))
  refine StF.stM (st.put exs e1 (fun a ha => hch a fun z => ha (by rw [ef]; exact List.mem_cons_of_mem _ (ff a z))) ow ?_ fun a ha => ?_)
  · rw [List.nodup_cons]
    refine ⟨fun z => ?_, ?_⟩
    · rcases up p z with z | z
      · rcases hf' p z with w | w
        · exact hpf w
        · exact (hnew p w).2 i _ exs (by rw [ef]; exact List.mem_cons_self)
      · exact nd2.1 (dn p z)
    · have fk2 : (fps.set k f')[k]? = some f' := List.getElem?_set_self (by omega)
      rw [nd_split fk2, List.set_set]
      exact ⟨hn, nd2.2.2.1, ap⟩
  · rcases List.mem_cons.mp ha with rfl | ha
    · exact .inl (by rw [ef]; exact List.mem_cons_self)
    · rcases up a ha with z | z
      · rcases hf' a z with w | w
        · exact .inl (by rw [ef]; exact List.mem_cons_of_mem _ (ff a w))
        · exact .inr ⟨(hnew a w).1, fun j' d' _ ej => (hnew a w).2 j' d' ej⟩
      · exact .inl (by rw [ef]; exact List.mem_cons_of_mem _ (dn a z))
theorem js_app2T (n i : Nat) {md1 : Md} (hj : JE X E m .sh j fj) (he : JE X E m md1 e f) (h1 : md1 = mdT n := by rfl) (hmd : IsTr (n + 2) (mdAt m i) := by first | exact .inl rfl | exact .inr ⟨_, rfl⟩) (hN : X.N[i]? = some x := by rfl) (hv : Vis X.env.scope x := by first | exact Or.inl rfl | exact Or.inr (Or.inl rfl) | exact Or.inr (Or.inr rfl))
    (hd : (x == ("__debug__" : Str)) = false := by decide) (hcd : (x == ("__classdict__" : Str)) = false := by decide)
    (hs : swapsWith (.Call (.Attribute (.Subscript (.Name x p1) j p4) "append" p2) [e] [] p3) none pos.line X.env = pure false := by rfl) (hsl : PlainIx j := by intro _ _; rfl)
    (hpe : ∀ {to te : TE}, PE X (.Subscript (.Name x p1) j p4) to → PE X e te → PE X (.Call (.Attribute (.Subscript (.Name x p1) j p4) "append" p2) [e] [] p3) (tBM X.K "list" rAppend to (tCons te tNil)) := by
      intro to te ho he
      exact pe_bm PySem.F.plainAttrs_list PySem.F.slot_list_append PySem.F.type_list_append mt_append ho (pa_cons he pa_nil)) :
    JS X E L m m (.Expr (.Call (.Attribute (.Subscript (.Name x p1) j p4) "append" p2) [e] [] p3) pos) (fApp2 i fj f) := by
  subst h1
  refine ⟨PSimp (ps_expr (hpe (pe_ix ix_seq (pe_var hN hv hd hcd) hj.pe hsl) he.pe) hs) fun Dn σ H h => ?_⟩
  obtain ⟨S0, H0, ρ, ⟨S, Fp, st⟩, p⟩ := h
  unfold fApp2 at p
  split at p
  · rename_i xs exs
    obtain ⟨v0, e0, _, ot, _⟩ := st.ownT hmd exs
    obtain ⟨pa, vs, ds, fps, rfl, eds, _⟩ := id ot
    refine ⟨_, e0, S, ρ, st.envM, (lift_post st p).post fun dy vy S1 H1 s1 ry k1 => ?_⟩
    cases dy with
    | int z =>
      cases ry
      have k1 : SPost X.K X.mg E L S0 H0 m (match ixN xs.length z with
        | some k => (match xs[k]? with
          | some (.lst us) => lift (f ρ) ρ fun d => if szOk (us.length + 1) = true then .ok (.nx (ρ.set i (some (.lst (xs.set k (.lst (us ++ [d]))))))) else .er
          | _ => .er)
        | none => .er) Dn := k1
      cases ek : ixN xs.length z with
      | none => rw [ek] at k1; exact k1.elim
      | some k =>
        rw [ek] at k1
        simp only at k1
        split at k1
        · rename_i us eu
          have st1 := st.step s1
          obtain ⟨v1, e1', oa, ot, nd⟩ := st1.ownT hmd exs
          rw [e0] at e1'
          cases e1'
          obtain ⟨pa', vs, ds, fps, eq, eds, ef, sp, hp, hl, hfl, hin⟩ := id ot
          cases eq; cases eds
          have hkl := (ixN_seq ek).2.1
          have fk : fps[k]? = some (fps[k]'(by omega)) := List.getElem?_eq_getElem (by omega)
          have vk : vs[k]? = some (vs[k]'(by omega)) := List.getElem?_eq_getElem (by omega)
          have oc := hin k _ _ _ vk eu fk
          obtain ⟨q, ws, _, _, eqq, _, _, _, hqq, hlq, _⟩ := id oc
          have hat : L2.atI vs z = some (V.ref q) := by
            unfold L2.atI
            rw [hl, ek]
            show vs[k]? = _
            rw [vk, eqq]
          refine .inl ⟨pa, vs, z, V.ref q, rfl, rfl, .inl (.inl hp), hat, ?_⟩
          refine ⟨.inl ⟨rfl, ws, .inl (.inl hqq)⟩, S1, ρ, st1.envM, (lift_post st1 k1).postM fun d v S2 H2 fp s2 o hn hf k2 => ?_⟩
          split at k2
          · rename_i hz
            have st2 := st1.step s2
            have on := mdT_own.mp o
            have na : ∀ a, a ∈ fp → H0 a = none ∧ ∀ j d, ρ[j]? = some (some d) → a ∉ Fp j := fun a ha => new_apart st1 hf ha
            have ffi : ∀ a, a ∈ (fps[k]'(by omega)) → a ∈ Fp i := fun a ha => by rw [ef]; exact List.mem_cons_of_mem _ (flat_mem fk ha)
            have nd2 := nd
            rw [ef, List.nodup_cons, nd_split fk] at nd2
            obtain ⟨q', ws', eq', hq', hl', hqf, f', ot', hn', hf'⟩ := (oc.step s2).app nd2.2.1 on hn fun a ha hb => (na a ha).2 i _ exs (ffi a hb)
            obtain rfl : q' = q := by rw [eqq] at eq'; injection eq' with z; exact z.symm
            obtain ⟨v2, e2', oa2, ot2, _⟩ := st2.ownT hmd exs
            rw [e0] at e2'
            cases e2'
            refine ⟨q', ws', v, rfl, rfl, hq', by rw [hl']; exact szOk_lt hz, k2 σ _ ?_⟩
            exact inner_change (n := n + 1) st2 hmd exs e0 oa2 ef (s2.out sp hp) (s2.hh _ _ hp) hl hfl (fun j w e f a b c => (hin j w e f a b c).step s2) vk fk (fun a ha => upd_ne fun z => ha (by rw [z]; exact hqf)) ot' hn' hf' na
          · exact k2.elim
        · exact k1.elim
    | _ => exact k1.elim
  · exact p.elim
end
end Da
namespace Da
open PySem PySem.Spec L2
section
variable {X : Cx} {E : WX} {L : Lp} {m m1 m2 m3 : Mds} {md : Md} {a b e j : Expr} {es : List Expr} {f fa fb fj : Env → Res D} {g : Env → Res Bool} {pos p p1 p2 p3 p4 : Pos} {x y : Str}
/-- a slice of an own list: a new list of one's own -/
theorem je_cutLO (i : Nat) {l h : Option Expr} {fl fh : Env → Res (Option Int)} (hl : JO X E m l fl) (hh : JO X E m h fh) (hmd : IsOw (mdAt m i) := by first | exact .inl rfl | exact .inr ⟨_, rfl⟩) (hN : X.N[i]? = some x := by rfl) (hv : Vis X.env.scope x := by first | exact Or.inl rfl | exact Or.inr (Or.inl rfl) | exact Or.inr (Or.inr rfl)) (hd : (x == ("__debug__" : Str)) = false := by decide)
    (hcd : (x == ("__classdict__" : Str)) = false := by decide) : JE X E m .ow (.Subscript (.Name x p) (.Slice l h none p2) pos) (fCut dCutL (fV i) fl fh) := by
  refine ⟨PEimp (pe_slice sl_all (pe_var hN hv hd hcd) hl.po hh.po) fun σ H Q q => ?_⟩
  obtain ⟨S, ρ, hm, hp⟩ := q
  obtain ⟨hsub, F, en⟩ := id hm
  unfold fCut fV at hp
  split at hp
  · rename_i d ed
    obtain ⟨v, e1, o⟩ := en.at_ i d ed
    obtain ⟨q, vs, ds, rfl, rfl, e3, e4, e5, e6⟩ : ∃ q vs ds, v = .ref q ∧ d = .lst ds ∧ F i = [q] ∧ S q = none ∧ H q = some (.lst vs) ∧ RepL X.K X.mg S vs ds := by
      rcases hmd with hmd | ⟨q0, hmd⟩
      · rw [hmd] at o
        exact o
      · rw [hmd] at o
        exact o.2
    have hp : Post X.K X.mg (WE E σ) S H .ow ((fl ρ).bind fun l => (fh ρ).bind fun h => dCutL (.lst ds) l h) Q := hp
    refine ⟨_, e1, S, ρ, hm, (Post.bind hp).imp fun lo S2 H2 s2 k2 => ⟨S2, ρ, hm.step s2, (Post.bind k2).imp fun hi S3 H3 s3 k3 => ?_⟩⟩
    exact .inl ⟨q, vs, rfl, .inl (.inl ((s2.trans s3).hh _ _ e5)), fun p hp => Post.own k3 s3.sub (repl_cut (e6.mono (s2.trans s3).ss) lo hi) hp⟩
  · exact hp.elim
end
end Da
namespace Da
open PySem PySem.Spec L2
end Da
namespace Da
open PySem PySem.Spec L2
section
variable {K : PySem.W.Frag} {mg : Str → Option Value} {m : Mds} {S0 H0 S S' H H' : Hp} {σ : L2.St} {ρ : Env} {F : Nat → List Addr} {D0 : Addr} {o : HO}
theorem StF.wipe (st : StF K mg m S0 H0 S F σ ρ H) (vs : List Nat) : StF K mg m S0 H0 S F (L2.wipe σ vs) (wipeD ρ vs) H := by
  obtain ⟨s, en, nw⟩ := st
  refine ⟨s, en.wipe vs, fun i d ei => nw i d ?_⟩
  induction vs with
  | nil => exact ei
  | cons v vs ih =>
    unfold wipeD at ei
    rw [List.getElem?_set] at ei
    split at ei
    · split at ei <;> cases ei
    · exact ih ei
end
end Da
namespace Da
open PySem PySem.Spec L2
end Da
namespace Da
open PySem PySem.Spec L2
def keysD : List D → Option (List Key)
  | [] => some []
  | d :: ds => match keyD d, keysD ds with
    | some k, some ks => some (k :: ks)
    | _, _ => none
def keyT : D → Option (List Key)
  | .tup ds => keysD ds
  | _ => none
def lookT : List (List Key) → List D → List Key → Option D
  | k' :: ks, d :: ds, k => if k' = k then some d else lookT ks ds k
  | _, _, _ => none
def putKsT (ks : List (List Key)) (k : List Key) : List (List Key) := if (ks.any fun j => decide (j = k)) = true then ks else ks ++ [k]
def putVsT (ks : List (List Key)) (ds : List D) (k : List Key) (d : D) : List D := if (ks.any fun j => decide (j = k)) = true then (ks.zip ds).map (fun p => if p.1 = k then d else p.2) else ds ++ [d]
section
variable {K : PySem.W.Frag} {mg : Str → Option Value} {S H : Hp}
theorem keysD_ok : ∀ {ds : List D} {vs : List V} {ks : List Key}, RepL K mg S vs ds → keysD ds = some ks → vs = ks.map kV
  | [], vs, ks, r, e => by
    cases e
    have := r.len
    exact List.eq_nil_of_length_eq_zero this
  | d :: ds, [], ks, r, e => by have := r.len; simp at this
  | d :: ds, v :: vs, ks, r, e => by
    unfold keysD at e
    cases e1 : keyD d with
    | none => rw [e1] at e; cases e
    | some k =>
      cases e2 : keysD ds with
      | none => rw [e1, e2] at e; cases e
      | some kr =>
        rw [e1, e2] at e
        cases e
        rw [List.map_cons, keyD_ok r.head e1, keysD_ok r.tail e2]
theorem keyT_ok {v : V} {d : D} {k : List Key} (r : Rep K mg S v d) (h : keyT d = some k) : ∃ b, v = .ref b ∧ S b = some (.tup (k.map kV)) := by
  cases d with
  | tup ds =>
    obtain ⟨a, vs, rfl, ha, rv⟩ := r.of_tupS
    exact ⟨a, rfl, by rw [ha, keysD_ok rv h]⟩
  | _ => cases h
theorem Rep.of_dit {v : V} {ks : List (List Key)} {ds : List D} (h : Rep K mg S v (.dit ks ds)) : ∃ a kvs, v = .ref a ∧ S a = some (.dT kvs) ∧ ks = kvs.map (·.1) ∧ RepL K mg S (kvs.map (·.2)) ds := by
  cases h with
  | dit h hl hi =>
    refine ⟨_, _, rfl, h, rfl, by rw [List.length_map]; exact hl, fun i v d a b => ?_⟩
    rw [List.getElem?_map] at a
    cases e : (_ : List (List Key × V))[i]? with
    | none => rw [e] at a; cases a
    | some p => rw [e] at a; cases a; exact hi i p d e b
theorem lookT_ok : ∀ {kvs : List (List Key × V)} {ds : List D} {k : List Key}, RepL K mg S (kvs.map (·.2)) ds → (lookT (kvs.map (·.1)) ds k = none ∧ valV kvs k = none) ∨ ∃ d v, lookT (kvs.map (·.1)) ds k = some d ∧ valV kvs k = some v ∧ Rep K mg S v d
  | [], ds, k, r => .inl ⟨by cases ds <;> rfl, rfl⟩
  | p :: kvs, [], k, r => by have := r.len; simp at this
  | p :: kvs, d :: ds, k, r => by
    rw [List.map_cons] at r
    by_cases e : p.1 = k
    · refine .inr ⟨d, p.2, ?_, valV_pos e, r.head⟩
      show (if p.1 = k then some d else _) = _
      rw [if_pos e]
    · have ih := lookT_ok (k := k) r.tail
      have q : lookT ((p :: kvs).map (·.1)) (d :: ds) k = lookT (kvs.map (·.1)) ds k := by
        show (if p.1 = k then some d else _) = _
        rw [if_neg e]
      rw [q, valV_neg e]
      exact ih
theorem putT_ok {kvs : List (List Key × V)} {ds : List D} {k : List Key} {v : V} {d : D} (r : RepL K mg S (kvs.map (·.2)) ds) (h : Rep K mg S v d) : (putK kvs k v).map (·.1) = putKsT (kvs.map (·.1)) k ∧ RepL K mg S ((putK kvs k v).map (·.2)) (putVsT (kvs.map (·.1)) ds k d) := by
  have ha : ((kvs.map (·.1)).any fun j => decide (j = k)) = kvs.any fun kv => decide (kv.1 = k) := by rw [List.any_map]; rfl
  unfold putK putKsT putVsT
  rw [ha]
  by_cases hk : (kvs.any fun kv => decide (kv.1 = k)) = true
  · rw [if_pos hk, if_pos hk, if_pos hk]
    refine ⟨?_, ?_⟩
    · rw [List.map_map]
      refine List.map_congr_left fun p _ => ?_
      show (if p.1 = k then (p.1, v) else p).1 = p.1
      split <;> rfl
    · have hl := r.len
      rw [List.length_map] at hl
      refine ⟨by simp [hl], fun i w e a b => ?_⟩
      rw [List.getElem?_map, List.getElem?_map] at a
      rw [List.getElem?_map] at b
      cases ek : kvs[i]? with
      | none => rw [ek] at a; cases a
      | some p =>
        rw [ek] at a
        cases ez : ((kvs.map (·.1)).zip ds)[i]? with
        | none => rw [ez] at b; cases b
        | some q =>
          rw [ez] at b
          rw [List.getElem?_zip_eq_some] at ez
          obtain ⟨z1, z2⟩ := ez
          rw [List.getElem?_map, ek] at z1
          have z1 : p.1 = q.1 := by injection z1
          have a : (if p.1 = k then (p.1, v) else p).2 = w := by injection a
          have b : (if q.1 = k then d else q.2) = e := by injection b
          rw [← a, ← b, ← z1]
          split
          · exact h
          · exact r.at_ i p.2 q.2 (by rw [List.getElem?_map, ek]; rfl) z2
  · rw [if_neg hk, if_neg hk, if_neg hk]
    refine ⟨by rw [List.map_append]; rfl, ?_⟩
    rw [List.map_append]
    exact r.snoc h
end
def dGetT : D → D → Res D := fun x y => match x, keyT y with
  | .dit ks ds, some k => (match lookT ks ds k with
    | some d => .ok d
    | none => .er)
  | _, _ => .er
def dHasT (neg : Bool) : D → D → Res D := fun y x => match x, keyT y with
  | .dit ks ds, some k => .ok (.bl ((lookT ks ds k).isSome != neg))
  | _, _ => .er
section
variable {X : Cx} {E : WX} {L : Lp} {m : Mds} {e j a b : Expr} {f fj fa fb : Env → Res D} {x : Str} {pos p1 p2 : Pos} {k : Nat}
theorem opd_dhasT {K : PySem.W.Frag} {mg : Str → Option Value} {neg : Bool} : OpD K mg .sh (rDIn neg) (dHasT neg) := by
  intro E S H x y dx dy Q hs rx ry h
  cases dy with
  | dit ks ds =>
    unfold dHasT at h
    split at h
    · rename_i ks' ds' k e1 e2
      cases e1
      obtain ⟨a, kvs, rfl, ha, rfl, rv⟩ := ry.of_dit
      obtain ⟨b, rfl, hb⟩ := keyT_ok rx e2
      refine ⟨a, _, rfl, DGet.t (hs _ _ ha) (hs _ _ hb), ?_⟩
      have h := Post.val h hs (.bl _)
      rcases lookT_ok (k := k) rv with ⟨e3, e4⟩ | ⟨d, w, e3, e4, _⟩
      · rw [e3] at h; rw [e4]; exact h
      · rw [e3] at h; rw [e4]; exact h
    · exact h.elim
  | _ => exact h.elim
theorem opd_dgetT {K : PySem.W.Frag} {mg : Str → Option Value} : OpD K mg .sh rDIx dGetT := by
  intro E S H x y dx dy Q hs rx ry h
  cases dx with
  | dit ks ds =>
    unfold dGetT at h
    split at h
    · rename_i ks' ds' k e1 e2
      cases e1
      obtain ⟨a, kvs, rfl, ha, rfl, rv⟩ := rx.of_dit
      obtain ⟨b, rfl, hb⟩ := keyT_ok ry e2
      split at h
      · rename_i d ed
        rcases lookT_ok (k := k) rv with ⟨e3, e4⟩ | ⟨d', w, e3, e4, rw'⟩
        · rw [e3] at ed; cases ed
        · rw [e3] at ed
          cases ed
          exact ⟨a, w, rfl, by rw [← e4]; exact DGet.t (hs _ _ ha) (hs _ _ hb), Post.val h hs rw'⟩
      · exact h.elim
    · exact h.elim
  | _ => exact h.elim
theorem je_dgetT (hr : RmU X.A) (ha : JE X E m .sh a fa) (hb : JE X E m .sh b fb) (hs : NoSl b := by intro _ _; rfl) : JE X E m .sh (.Subscript a b pos) (f2 dGetT fa fb) := ⟨PEimp (pe_dget (by unfold RmU at hr; omega) ha.pe hb.pe hs) fun σ H Q h => two opd_dgetT h⟩
/-- x[j] = e of an own dict -/
def fPutT (i : Nat) (fe fj : Env → Res D) : FS := fun ρ => match ρ[i]? with
  | some (some (.dit ks ds)) => lift (fe ρ) ρ fun d => lift (fj ρ) ρ fun y => match keyT y with
    | some k => if szOk (ks.length + 1) = true then .ok (.nx (ρ.set i (some (.dit (putKsT ks k) (putVsT ks ds k d))))) else .er
    | none => .er
  | _ => .er
theorem js_dputT (i : Nat) (hr : RmU X.A) (he : JE X E m .sh e f) (hj : JE X E m .sh j fj) (hmd : mdAt m i = .dt := by rfl) (hN : X.N[i]? = some x := by rfl) (hv : Vis X.env.scope x := by first | exact Or.inl rfl | exact Or.inr (Or.inl rfl) | exact Or.inr (Or.inr rfl))
    (hd : (x == ("__debug__" : Str)) = false := by decide) (hcd : (x == ("__classdict__" : Str)) = false := by decide) (hs : swapsWith e (some (.Subscript (.Name x p1) j p2)) pos.line X.env = pure false := by rfl) :
    JS X E L m m (.Assign [.Subscript (.Name x p1) j p2] e pos) (fPutT i f fj) := by
  refine ⟨PSimp (ps_dput (by unfold RmU at hr; omega) (pe_var hN hv hd hcd) hj.pe he.pe hs) fun D σ H h => ?_⟩
  obtain ⟨S0, H0, ρ, ⟨S, Fp, st⟩, p⟩ := h
  unfold fPutT at p
  split at p
  · rename_i ks ds exs
    refine ⟨S, ρ, st.envM, (lift_post st p).post fun d v S1 H1 s1 r k1 => ?_⟩
    have st1 := st.step s1
    obtain ⟨w, e1, o⟩ := st1.2.1.at_ i _ exs
    refine ⟨w, e1, S1, ρ, st1.envM, (lift_post st1 k1).post fun y vy S2 H2 s2 ry k2 => ?_⟩
    have st2 := st1.step s2
    obtain ⟨w2, e2, o2⟩ := st2.2.1.at_ i _ exs
    rw [e1] at e2
    cases e2
    rw [hmd] at o2
    obtain ⟨q, kvs, ds', ew, ed, efp, sq, hq, rv⟩ := o2
    cases ed
    cases ek : keyT y with
    | none => rw [ek] at k2; exact k2.elim
    | some kk =>
      rw [ek] at k2
      have k2 : SPost X.K X.mg E L S0 H0 m (if szOk ((kvs.map (·.1)).length + 1) = true then .ok (.nx (ρ.set i (some (.dit (putKsT (kvs.map (·.1)) kk) (putVsT (kvs.map (·.1)) ds kk d))))) else .er) D := k2
      split at k2
      · rename_i hz
        have hz := szOk_lt hz
        rw [List.length_map] at hz
        obtain ⟨b, rfl, hb⟩ := keyT_ok ry ek
        obtain ⟨pk1, pk2⟩ := putT_ok (k := kk) rv (r.mono s2.ss)
        refine ⟨q, upd H2 q (.dT (putK kvs kk v)), ew, DPut.t hq (st2.1.sub _ _ hb) hz, ?_⟩
        refine k2 σ _ (st2.writeG (v := w) (d1 := .dit (putKsT (kvs.map (·.1)) kk) (putVsT (kvs.map (·.1)) ds kk d)) exs efp e1 sq ?_).stM
        rw [hmd]
        exact ⟨q, putK kvs kk v, _, ew, by rw [pk1], rfl, sq, upd_same, pk2⟩
      · exact k2.elim
  · exact p.elim
end
end Da
namespace Da
open PySem PySem.Spec L2
end Da
namespace Da
open PySem PySem.Spec L2
def f3 (g : D → D → D → Res D) (fa fb fc : Env → Res D) : Env → Res D := fun ρ => (fa ρ).bind fun x => (fb ρ).bind fun y => (fc ρ).bind fun z => g x y z
end Da
namespace Da
open PySem PySem.Spec L2
inductive MgAll (mg : Str → Option Value) : List Str → List Addr → Prop
  | nil : MgAll mg [] []
  | cons {y : Str} {Y : Addr} {ys : List Str} {Ys : List Addr} (h : mg y = some (.ref Y)) (t : MgAll mg ys Ys) : MgAll mg (y :: ys) (Y :: Ys)
theorem MgAll.eq {mg : Str → Option Value} : ∀ {ys : List Str} {Ys Zs : List Addr}, MgAll mg ys Ys → MgAll mg ys Zs → Ys = Zs
  | _, _, _, .nil, .nil => rfl
  | _, _, _, .cons h t, .cons h' t' => by
    rw [h] at h'
    have := Option.some.inj h'
    injection this with this
    rw [this, MgAll.eq t t']
end Da
namespace Da
open PySem PySem.Spec PyProof.Rows L2
end Da
namespace Da
open PySem PySem.Spec L2
end Da
namespace Da
open PySem PySem.Spec L2
end Da
namespace Da
open PySem PySem.Spec L2
end Da
namespace Da
open PySem PySem.Spec L2
end Da
namespace Da
open PySem PySem.Spec L2
end Da
namespace Da
open PySem PySem.Spec PyProof.Rows L2
end Da
namespace Da
open PySem PySem.Spec L2
end Da
namespace Da
open PySem PySem.Spec PyProof.Rows L2
end Da
namespace Da
open PySem PySem.Spec L2
section
variable {X : Cx}
/-- D is stored into, by the comprehension -/
theorem put_comp {pins : List (Addr × Obj)} {σ : L2.St} {H : Hp} {s : Shared} {E : Value → Shared → Prop} {D : Addr} {kvs : List (List Key × V)} {k : List Key} {b : Addr} {v : V} {r : Value} {Q : Unit → Shared → Prop} (room : X.A.units < cLine) (I : Inv X pins σ H s)
    (hD : H D = some (.dT kvs)) (hz : kvs.length < sizeLine) (hb : H b = some (.tup (k.map kV))) (rv : RelV v r) (q : ∀ s', Inv X pins σ (upd H D (.dT (putK kvs k v))) s' → Q () s') : wpAny (model X.prog X.w) X.A (dictSet D (.ref b) r) Q E s := by
  obtain ⟨z, sys, xs, hx, dd⟩ := dt_of I.hok hD
  have len : xs.length ≤ sizeLine := by rw [← Paired.length hx]; exact z
  have len2 := length_putK kvs k v
  refine wpAny_dictSet_heap (hsz := len) (knd := tupleKind (mixKind X.prog X.w)) room (key_of I.hok hb) dd fun h1 ⟨o, es, ep, d1, d2, d3, d4, _, d5⟩ same => q _ ?_
  refine d_write I (by rw [hD]; exact True.intro) same ⟨o, d1⟩ ⟨by omega, sys, _, (hx.put k hb rv).keeps fun c ys ec => ?_, o, es, ep, d1, d2, d3, d4, d5⟩
  rwa [upd_ne (ne_of ec hD fun w => nomatch w)]
/-- one turn's end: what is stored, or nothing -/
def StoreT (D : Addr) (tk tv : TE) (Nx : Hp → Prop) (σ : L2.St) (b : Bool) (H : Hp) : Prop := match b with
  | true => tk σ H fun y H1 => tv σ H1 fun z H2 => ∃ kvs k a, y = .ref a ∧ H2 a = some (.tup (k.map kV)) ∧ H2 D = some (.dT kvs) ∧ kvs.length < sizeLine ∧ Nx (upd H2 D (.dT (putK kvs k z)))
  | false => Nx H
/-- one turn -/
def TurnT (D : Addr) (J : It) (g : TG) (tt : TT) (tk tv : TE) (vs : List Nat) (σ : L2.St) (W : Nat → Nat → Hp → Prop) (i m : Nat) (H : Hp) : Prop :=
  J.go i H ∧ ∃ Nx : Hp → Prop, (∀ H1, Nx H1 → ∃ m1, m1 < m ∧ W (i + 1) m1 H1) ∧ ∀ x H1, J.yld i H x H1 → g x (wipe σ vs) H1 fun σ2 H2 => wipe σ2 vs = wipe σ vs ∧ tt σ2 H2 (StoreT D tk tv Nx σ2)
def tDcT (wi : TI) (g : TG) (tt : TT) (tk tv : TE) (vs : List Nat) : TE := fun σ H Q => wi σ H fun J H1 => ∀ D, H1 D = none →
  ∃ W : Nat → Nat → Hp → Prop, (∃ m, W 0 m (upd H1 D (.dT []))) ∧ ∀ i m H, W i m H → (J.stop i H ∧ Q (.ref D) H) ∨ TurnT D J g tt tk tv vs σ W i m H
abbrev InC (X : Cx) (P : Cx → Prop) (scope : Scope) : Prop := ∀ (s : Shared) (H : Hp) (C : Addr) (cl : List (Str × Addr)) (fp : List Addr), P (X.blk s H scope (compEnvC scope cl C X.env) fp)
theorem pe_dcT {kx vx tg iter : Expr} {ifs : List Expr} {scope : Scope} {own : List (Str × Nat)} {pos : Pos} {wi : TI} {g : TG} {tt : TT} {tk tv : TE} (room : X.A.units < cLine) (calm : X.calm = true) (nd : X.N.Nodup) (pi : PI X tg iter wi) (ok : BlkOk X.N X.env.scope scope own)
    (pg : InC X (fun Y => PG Y tg g) scope) (pt : InC X (fun Y => PTs Y ifs tt) scope) (pk : InC X (fun Y => PE Y kx tk) scope) (pv : InC X (fun Y => PE Y vx tv) scope) (fold : ∀ x, foldedSetIterable iter X.env x = pure x) :
    PE X (.DictComp kx vx [⟨tg, iter, ifs, 0⟩] scope pos) (tDcT wi g tt tk tv (own.map (·.2))) := by
  constructor
  intro pins s σ H Q I h
  rw [arm_eval_DictComp]
  have cl := closure_ok (fun y hy e => (ok.free y hy e).elim (fun k => I.ok.has _ (.inl k)) fun k => I.ok.has _ (.inr k))
  refine wpAny_comprehension_free (use := none) rfl fold cl ok.kind (fun y hy e => by rw [ok.uniq y hy, e]) (thn (pi.run pins s σ H _ I h) fun _ _ w1 => thn w1 fun itv s2 w2 => ?_)
  obtain ⟨it, fp, tn, J, H2, rfl, I2, T, w3, w4, w5⟩ := w2
  refine wpAny_newObj_type (newEnv_comp ?_)
  -- the dict D, then the block's own names
  obtain ⟨D, eD⟩ : ∃ D, s2.heap.objs.size = D := ⟨_, rfl⟩
  obtain ⟨W, ⟨m0, start⟩, turn⟩ := w5 D (I2.hok.fresh (Nat.le_of_eq eD))
  obtain ⟨s3, e3⟩ : ∃ s3 : Shared, s3 = { s2 with heap := s2.heap.push { cls := .type "dict", data := .dict #[] } } := ⟨_, rfl⟩
  have I3 : Inv X pins σ (upd H2 D (.dT [])) s3 := by
    subst eD e3
    exact I2.laid (t' := s2.toks) (fun _ _ q => Heap.get?_push_of_some _ q) (Nat.le_refl _) (dt_empty s2.heap I2.big)
  have hp3 : s3.heap = s2.heap.push { cls := .type "dict", data := .dict #[] } := by rw [e3]
  have low : ∀ b ∈ fp, b < D := fun b hb => by
    obtain ⟨o, q, _⟩ := T.obj _ _ w3 b hb
    exact eD ▸ Heap.lt_size q
  have fpo : ∀ b ∈ fp, FpOk X pins (upd H2 D (.dT [])) b ∧ b < s3.heap.objs.size := fun b hb => by
    have lt := low b hb
    have hn : upd H2 D (.dT []) b = none := (upd_ne (Nat.ne_of_lt lt)).trans (w4 b hb).1
    exact ⟨⟨hn, (w4 b hb).2⟩, by rw [hp3, Heap.size_push, eD]; exact Nat.lt_succ_of_lt lt⟩
  have none3 : ∀ b ∈ fp, upd H2 D (.dT []) b = none := fun b hb => (fpo b hb).1.1
  have tn3 : tn 0 s3.heap := T.keep _ _ _ w3 fun b _ o q => hp3 ▸ Heap.get?_push_of_some _ q
  have I4 := block_start I3 ok nd fpo
  obtain ⟨cls, ecls⟩ : ∃ cls, cls = cellsFrom (s3.heap.objs.size + 1) scope.names (cloFrom X.env.cells scope.names []) := ⟨_, rfl⟩
  have G := pg s3 (upd H2 D (.dT [])) s3.heap.objs.size cls fp
  have TT := pt s3 (upd H2 D (.dT [])) s3.heap.objs.size cls fp
  have KK := pk s3 (upd H2 D (.dT [])) s3.heap.objs.size cls fp
  have VV := pv s3 (upd H2 D (.dT [])) s3.heap.objs.size cls fp
  rw [← e3, eD]
  rw [← ecls] at I4 ⊢
  obtain ⟨ce, ece⟩ : ∃ ce, ce = compEnvC scope cls s3.heap.objs.size X.env := ⟨_, rfl⟩
  have loc : ce.locals = s3.heap.objs.size := by rw [ece]; rfl
  obtain ⟨H3, eH3⟩ : ∃ H3, H3 = upd H2 D (.dT []) := ⟨_, rfl⟩
  rw [← ece, ← eH3] at G TT KK VV I4
  show codeAny (model X.prog X.w) X.A (.compStart (.DictComp kx vx [⟨tg, iter, ifs, 0⟩] scope pos) 0 (.ref it) (.ref D) (compEnvC scope cls s3.heap.objs.size X.env)) (compPost (model X.prog X.w) X.A X.xe none (EP X pins σ Q) (.ref D) s3.heap.objs.size) _
  rw [← ece]
  rw [← eH3] at I3 start none3 fpo
  obtain ⟨s4, e4⟩ : ∃ s4 : Shared, s4 = { s3 with heap := pushCells (s3.heap.push { cls := .type "dict", data := .dict #[] }) scope.names } := ⟨_, rfl⟩
  rw [← e4] at I4
  have tn4 : tn 0 s4.heap := T.keep _ _ _ tn3 fun b _ o q => by rw [e4]; exact pushCells_keeps _ _ _ _ (Heap.get?_push_of_some _ q)
  -- the walked thing stands by
  have by_ : ∀ {σ' : L2.St} {H' : Hp} {s' : Shared}, Inv (X.blk s3 H3 scope ce fp) [] σ' H' s' → (∀ b ∈ fp, H' b = none) → ∀ b ∈ fp, FpOk (X.blk s3 H3 scope ce fp) [] H' b := fun I' hn b hb =>
    ⟨hn b hb, (I'.ok.exf b hb).1, I'.ok.exfs b hb, .inl hb, fun x c q => (I'.ok.exf b hb).2 x c q, fun p hp => by cases hp⟩
  have walk : codeAny (model X.prog X.w) X.A (.compLoop (.DictComp kx vx [⟨tg, iter, ifs, 0⟩] scope pos) 0 (.ref it) (.ref D) ce) (compPost (model X.prog X.w) X.A X.xe none (EP X pins σ Q) (.ref D) s3.heap.objs.size) s4 := by
    refine compLoop_anyD (fun n s' => ∃ i H', Inv (X.blk s3 H3 scope ce fp) [] (wipe σ (own.map (·.2))) H' s' ∧ tn i s'.heap ∧ (∀ b ∈ fp, H' b = none) ∧ W i n H') (fun n s5 ⟨i, H5, J1, J2, J3, J4⟩ => ?_) m0 ⟨0, H3, I4, tn4, none3, start⟩
    rcases turn i n H5 J4 with ⟨stop, fin⟩ | ⟨go, Nx, hNx, each⟩
    · refine thnF (T.done (X.blk s3 H3 scope ce fp) rfl rfl rfl calm i [] s5 _ H5 (fun _ _ => False) J1 (by_ J1 J3) J2 stop) fun r s6 ⟨er, I6⟩ => ?_
      subst er
      have I7 : Inv X pins σ H5 s6 := I3.call' (ch := fp) I6.os I6.base I6.hok I6.bare fun b hb => by
        obtain ⟨_, f1, f2, f3, f4, f5⟩ := (fpo b hb).1
        exact ⟨f3, f1, f4, f5⟩
      have free : H5 s3.heap.objs.size = none := loc ▸ (show H5 ce.locals = none from I6.free)
      obtain ⟨m, ns, _⟩ := I6.loc
      have ns : s6.heap.Ns s3.heap.objs.size m := loc ▸ (show s6.heap.Ns ce.locals m from ns)
      refine ⟨m, ns, fun h2 sb => ?_⟩
      obtain ⟨f0, f1, f2, f3, f4, f5⟩ := I3.fpOk (Nat.le_refl _) free
      exact ⟨.ref D, H5, I7.turned (t' := s6.toks) (fun b o hb q => (sb.2 b hb).trans q) f0 f1 f3 f4 f5, rfl, fin⟩
    · refine thnF (T.item (X.blk s3 H3 scope ce fp) rfl rfl rfl calm i [] s5 _ H5 (fun _ _ => False) J1 (by_ J1 J3) J2 go) fun r s6 ⟨u, er, y6⟩ => ?_
      subst er
      refine thnF y6 fun _ s7 ⟨x, H7, K1, K2, K3, K4, K5⟩ => ?_
      refine thnF (G.run _ s7 _ H7 x u _ (K1.pinned (by_ K1 K5) (T.obj _ _ K4)) K2 (each x H7 K3)) fun _ s8 ⟨σ8, H8, I8, same, q8⟩ => ?_
      have back : ∀ {s' : Shared} {H' : Hp}, Inv (X.blk s3 H3 scope ce fp) ([] ++ pinsAt fp s7.heap) σ8 H' s' → Nx H' → ∃ m, m < n ∧ ∃ i H', Inv (X.blk s3 H3 scope ce fp) [] (wipe σ (own.map (·.2))) H' s' ∧ tn i s'.heap ∧ (∀ b ∈ fp, H' b = none) ∧ W i m H' := fun {s' H'} I' nx => by
        obtain ⟨m1, lt, w1⟩ := hNx H' nx
        have pin : ∀ b ∈ fp, ∀ o, s7.heap.get? b = some o → s'.heap.get? b = some o ∧ H' b = none := fun b hb o q => by
          have z := I'.pin (b, o) (List.mem_append_right _ (List.mem_append_right _ (mem_pinsAt hb q)))
          exact ⟨z.1, z.2.1⟩
        refine ⟨m1, lt, i + 1, H', (I'.unpinned (pins := [])).weak (by rw [← same, L2.wipe_length]) (fun j v q => ?_), T.keep _ _ _ K4 fun b hb o q => (pin b hb o q).1, fun b hb => ?_, w1⟩
        · exact (L2.wipe_some (same ▸ q)).1
        · obtain ⟨o, q, _⟩ := T.obj _ _ K4 b hb
          exact (pin b hb o q).2
      refine thnF (TT.run _ s8 σ8 H8 _ I8 q8) fun b s9 ⟨H9, I9, q9⟩ => ?_
      cases b with
      | false =>
        rw [if_neg (by decide)]
        exact back I9 q9
      | true =>
        rw [if_pos rfl]
        refine thnF (KK.run _ s9 σ8 H9 _ I9 q9) fun vk s10 ⟨yk, H10, I10, r10, q10⟩ => thnF (VV.run _ s10 σ8 H10 _ I10 q10) fun vv s11 ⟨yv, H11, I11, r11, kvs, k, a, ek, ha, hD, hz, nx⟩ => ?_
        subst ek
        cases (show vk = Value.ref a from r10)
        exact put_comp (X := X.blk s3 H3 scope ce fp) room I11 hD hz ha r11 fun s12 I12 => back I12 nx
  exact e4 ▸ codeAny_compStart_dict walk (T.self X.A 0 _ _ _ tn4 walk)
end
def dcGoT (g : D → Env → Res Env) (c : Env → Res Bool) (fk fv : Env → Res D) (ρ : Env) : List D → List (List Key) → List D → Res (List (List Key) × List D)
  | [], ks, ds => .ok (ks, ds)
  | x :: xs, ks, ds => match g x ρ with
    | .ok ρ1 => (match c ρ1 with
      | .ok b => if b = true then (match fk ρ1 with
        | .ok y => (match fv ρ1 with
          | .ok z => (match keyT y with
            | some k => dcGoT g c fk fv ρ xs (putKsT ks k) (putVsT ks ds k z)
            | none => .er)
          | _ => .er)
        | _ => .er) else dcGoT g c fk fv ρ xs ks ds
      | _ => .er)
    | _ => .er
def fDcT (vs : List Nat) (it : Env → Res (List D)) (g : D → Env → Res Env) (c : Env → Res Bool) (fk fv : Env → Res D) : Env → Res D := fun ρ => (it ρ).bind fun xs => if szOk xs.length = true then (match dcGoT g c fk fv (wipeD ρ vs) xs [] [] with
  | .ok q => .ok (.dit q.1 q.2)
  | _ => .er) else .er
section
variable {K : PySem.W.Frag} {mg : Str → Option Value} {E : WX} {m : Mds} {it : Env → Res (List D)} {g : D → Env → Res Env} {c : Env → Res Bool} {fk fv : Env → Res D} {ts vs : List Nat}
/-- the dict under way -/
def DcWT (K : PySem.W.Frag) (mg : Str → Option Value) (g : D → Env → Res Env) (c : Env → Res Bool) (fk fv : Env → Res D) (ρ : Env) (xs : List D) (q : List (List Key) × List D) (D0 : Addr) (S1 H1 : Hp) (i : Nat) (H : Hp) : Prop :=
  ∃ S2 kvs ds, Step S1 H1 S2 H ∧ S2 D0 = none ∧ H D0 = some (.dT kvs) ∧ RepL K mg S2 (kvs.map (·.2)) ds ∧ dcGoT g c fk fv ρ (xs.drop i) (kvs.map (·.1)) ds = .ok q ∧ kvs.length ≤ i
theorem dc_coreT {σ : L2.St} {S H S1 H1 : Hp} {ρ : Env} {Q : VK} {EE : XK} {xs : List D} {J : It} (hts : ∀ t ∈ ts, t ∈ vs) (hm : EnvM K mg m S H σ ρ) (s1 : Step S H S1 H1) (w : WalkD K mg J S1 xs)
    (k : Post K mg EE S1 H1 .dt (if szOk xs.length = true then (match dcGoT g c fk fv (wipeD ρ vs) xs [] [] with
      | .ok q => .ok (.dit q.1 q.2)
      | _ => .er) else .er) Q) :
    tDcT (fun _ _ R => R J H1) (tGD K mg m ts g) (tT K mg EF m c) (tE K mg EF m .sh fk) (tE K mg EF m .sh fv) vs σ H Q := by
  intro D0 hD
  split at k
  · rename_i hz
    have hz := szOk_ok hz
    split at k
    · rename_i q eg
      refine ⟨fun i n H => n = xs.length - i ∧ i ≤ xs.length ∧ DcWT K mg g c fk fv (wipeD ρ vs) xs q D0 S1 H1 i H, ⟨xs.length, by simp, Nat.zero_le _, S1, [], [], Step.hid s1.sub hD, s1.sub.free hD, upd_same, .nil, eg, Nat.le_refl _⟩, ?_⟩
      rintro i n H2 ⟨rfl, hi, S2, kvs, ds, st2, hs2, hd2, rv, el, hn⟩
      by_cases hlt : i < xs.length
      · obtain ⟨hgo, hyl⟩ := w.go i xs[i] S2 H2 (List.getElem?_eq_getElem hlt) st2.ss st2.sub
        refine .inr ⟨hgo, DcWT K mg g c fk fv (wipeD ρ vs) xs q D0 S1 H1 (i + 1), fun H' z => ⟨xs.length - (i + 1), by omega, rfl, hlt, z⟩, fun x H3 y => ?_⟩
        obtain ⟨S3, s3, r3⟩ := hyl x H3 y
        rw [List.drop_eq_getElem_cons hlt] at el
        unfold dcGoT at el
        split at el
        · rename_i ρ1 eg1
          have st3 := st2.trans s3
          obtain ⟨F, stF⟩ := (((hm.step s1).step st3).wipe vs).bare
          refine ⟨_, _, S3, F, wipeD ρ vs, xs[i], stF, r3, ?_⟩
          try rw [eg1]
          intro σ4 S4 F4 H4 st4 s4 hfr
          refine ⟨wipe_eq (by rw [hfr.1, L2.wipe_length]) hfr.2 hts, S4, ρ1, st4.envM, ?_⟩
          split at el
          · rename_i b ec
            try rw [ec]
            intro S5 H5 s5
            have a5 := (s3.trans s4).trans s5
            have st5 := st2.trans a5
            cases b with
            | false =>
              rw [if_neg (by decide)] at el
              show DcWT K mg g c fk fv (wipeD ρ vs) xs q D0 S1 H1 (i + 1) H5
              exact ⟨S5, kvs, ds, st5, a5.out hs2 hd2, a5.hh _ _ hd2, rv.mono a5.ss, el, by omega⟩
            | true =>
              rw [if_pos rfl] at el
              show tE K mg EF m Md.sh fk σ4 H5 _
              split at el
              · rename_i y' ey
                refine ⟨S5, ρ1, (st4.envM).step s5, ?_⟩
                try rw [ey]
                intro v S6 H6 fp s6 o _ _
                split at el
                · rename_i z' ez
                  refine ⟨S6, ρ1, ((st4.envM).step s5).step s6, ?_⟩
                  try rw [ez]
                  intro v2 S7 H7 fp2 s7 o2 _ _
                  split at el
                  · rename_i kk ek
                    have a7 := (a5.trans s6).trans s7
                    obtain ⟨b, ev, hb⟩ := keyT_ok (o.1.mono s7.ss) ek
                    have pk := putT_ok (k := kk) (rv.mono a7.ss) o2.1
                    refine ⟨kvs, kk, b, ev, s7.sub _ _ hb, a7.hh _ _ hd2, by omega, S7, putK kvs kk v2, _, (st2.trans a7).write (a7.out hs2 hd2) hD, a7.out hs2 hd2, upd_same, pk.2, ?_, by have := length_putK kvs kk v2; omega⟩
                    rw [pk.1]
                    exact el
                  · cases el
                · cases el
              · cases el
          · cases el
        · cases el
      · have e : i = xs.length := by omega
        subst e
        rw [List.drop_length] at el
        cases el
        exact .inl ⟨w.stop S2 H2 st2.ss st2.sub, k _ S2 H2 [D0] st2 ⟨D0, kvs, ds, rfl, rfl, rfl, hs2, hd2, rv⟩ (by simp) (fun a z => by
          have : a = D0 := by simpa using z
          rw [this]; exact hD)⟩
    · exact k.elim
  · exact k.elim
theorem dc_okT {σ : L2.St} {H : Hp} {Q : VK} (hts : ∀ t ∈ ts, t ∈ vs) (h : tE K mg E m .dt (fDcT vs it g c fk fv) σ H Q) :
    tDcT (tI K mg E m it) (tGD K mg m ts g) (tT K mg EF m c) (tE K mg EF m .sh fk) (tE K mg EF m .sh fv) vs σ H Q := by
  obtain ⟨S, ρ, hm, hp⟩ := h
  exact ⟨S, ρ, hm, (Post.bind hp).imp fun xs S1 H1 s1 k J w => dc_coreT hts hm s1 w k⟩
end
section
variable {X : Cx} {E : WX} {L : Lp} {m : Mds} {ts : List Nat} {N0 ps0 : List Str} {sc0 : Scope} {kx vx tg iter e : Expr} {ifs : List Expr} {scope : Scope} {own : List (Str × Nat)} {pos p p1 p2 p3 tpos : Pos} {it : Env → Res (List D)} {g : D → Env → Res Env} {c : Env → Res Bool} {fk fv fa fb : Env → Res D} {a b : Expr} {es elts : List Expr} {kk k : Nat} {fs : Env → Res (List D)}
theorem je_dcT (hr : RmU X.A) (Sc : FnScope N0 ps0 sc0) (own : List (Str × Nat)) (hi : JI X E m tg iter it)
    (hg : ∀ (s : Shared) (H : Hp) (C : Addr) (cl : List (Str × Addr)) (fp : List Addr), JG (X.blk s H scope (compEnvC scope cl C X.env) fp) m ts tg g) (ht : ∀ (s : Shared) (H : Hp) (C : Addr) (cl : List (Str × Addr)) (fp : List Addr), JTs (X.blk s H scope (compEnvC scope cl C X.env) fp) EF m ifs c)
    (hk : ∀ (s : Shared) (H : Hp) (C : Addr) (cl : List (Str × Addr)) (fp : List Addr), JE (X.blk s H scope (compEnvC scope cl C X.env) fp) EF m .sh kx fk)
    (he : ∀ (s : Shared) (H : Hp) (C : Addr) (cl : List (Str × Addr)) (fp : List Addr), JE (X.blk s H scope (compEnvC scope cl C X.env) fp) EF m .sh vx fv) (hc : X.calm = true := by rfl) (hN0 : X.N = N0 := by rfl) (hsc : X.env.scope = sc0 := by rfl) (ok : blkC N0 sc0 scope own = true := by decide +kernel) (hts : ∀ t ∈ ts, t ∈ own.map (·.2) := by decide)
    (hs : ∀ x, foldedSetIterable iter X.env x = pure x := by intro _; rfl) : JE X E m .dt (.DictComp kx vx [⟨tg, iter, ifs, 0⟩] scope pos) (fDcT (own.map (·.2)) it g c fk fv) :=
  ⟨PEimp (pe_dcT (by unfold RmU at hr; omega) (g := tGD X.K X.mg m ts g) (tt := tT X.K X.mg EF m c) (tk := tE X.K X.mg EF m .sh fk) (tv := tE X.K X.mg EF m .sh fv) hc (by rw [hN0]; exact Sc.nd) hi.pi (blkOk_by (by rw [hN0, hsc]; exact ok)) (fun s H C cl fp => (hg s H C cl fp).pg) (fun s H C cl fp => (ht s H C cl fp).pt) (fun s H C cl fp => (hk s H C cl fp).pe) (fun s H C cl fp => (he s H C cl fp).pe) hs) fun σ H Q h => dc_okT hts h⟩
theorem jt_dhasnotT (hr : RmU X.A) (ha : JE X E m .sh a fa) (hb : JE X E m .sh b fb) (hm : behindInMarks .NotIn b = false := by rfl) : JT X E m (.Compare a [.NotIn] [b] pos) (fB (f2 (dHasT true) fa fb)) := jt_cmp (op_dNotIn (by unfold RmU at hr; omega)) opd_dhasT ha hb hm
end
end Da
namespace Da
open PySem PySem.Spec L2
section
variable {X : Cx} {pos : Pos} {k v : Expr} {tk tv : TE}
/-- the dict stands empty while its pair is made -/
def tDisp1T (tk tv : TE) : TE := fun σ H Q => ∀ p, H p = none → tk σ (upd H p (.dT [])) fun y H1 => tv σ H1 fun z H2 => ∃ a kk, y = .ref a ∧ H2 a = some (.tup (kk.map kV)) ∧ H2 p = some (.dT []) ∧ Q (.ref p) (upd H2 p (.dT [(kk, z)]))
theorem pe_disp1T (room : X.A.units < cLine) (pk : PE X k tk) (pv : PE X v tv) : PE X (.Dict [some k] [v] pos) (tDisp1T tk tv) := by
  constructor
  intro pins s σ H Q I h
  have I1 : Inv X pins σ (upd H s.heap.objs.size (.dT [])) { s with heap := s.heap.push { cls := .type "dict", data := .dict #[] } } := I.laid (t' := s.toks) (fun _ _ q => Heap.get?_push_of_some _ q) (Nat.le_refl _) (dt_empty s.heap I.big)
  rw [arm_eval_Dict, zip_pairTrees [some k] [v] X.env pos rfl rfl, dictDisplay_pairs (pairTrees [some k] [v] X.env pos) (fun z => nomatch z) (show 1 < 17 by decide)]
  refine wpAny_bind (wpAny_standAt (wpAny_bind (wpAny_subDictH (knd := tupleKind (mixKind X.prog X.w)) room (show 1 ≤ 15 by decide) (pairTrees_cons_walk (thn (pk.run pins _ σ _ _ I1 (h _ (I.hok.fresh (Nat.le_refl _)))) fun u s1 ⟨y, H1, I2, ry, q1⟩ => thn (pv.run pins s1 σ H1 _ I2 q1) fun w2 s2 ⟨z, H2, I3, rz, a, kk, ey, ha, hp, q2⟩ => pairTrees_nil_walk ?_)))))
  subst ey
  cases (show u = Value.ref a from ry)
  obtain ⟨_, sys, xs, rel, dd⟩ := dt_of I3.hok hp
  cases rel
  refine ⟨[(kk, a, w2)], ⟨rfl, rfl, key_of I3.hok ha, trivial⟩, dd, fun h1 tk1 ⟨o, es, ep, d1, d2, d3, d4, _, d5⟩ same => wpAny_pure ⟨.ref s.heap.objs.size, _, ?_, rfl, q2⟩⟩
  refine d_write I3 (by rw [hp]; exact True.intro) same ⟨o, d1⟩ ⟨(show 1 ≤ sizeLine by rw [sizeLine_eq]; decide), sys, [(kk, a, w2)], Paired.cons ⟨rfl, ?_, rz⟩ .nil, o, es, ep, d1, d2, d3, d4, d5⟩
  rwa [upd_ne (ne_of ha hp fun w => nomatch w)]
end
def fDisp1T (fk fv : Env → Res D) : Env → Res D := fun ρ => (fk ρ).bind fun y => (fv ρ).bind fun z => match keyT y with
  | some k => .ok (.dit [k] [z])
  | none => .er
section
variable {X : Cx} {E : WX} {m : Mds} {k v : Expr} {fk fv : Env → Res D} {pos : Pos}
theorem je_disp1T (hr : RmU X.A) (hk : JE X E m .sh k fk) (hv : JE X E m .sh v fv) : JE X E m .dt (.Dict [some k] [v] pos) (fDisp1T fk fv) := by
  refine ⟨PEimp (pe_disp1T (by unfold RmU at hr; omega) hk.pe hv.pe) fun σ H Q h => ?_⟩
  obtain ⟨S, ρ, hm, hp⟩ := h
  intro p hn
  have s0 : Step S H S (upd H p (.dT [])) := Step.hid hm.1 hn
  have sp : S p = none := hm.1.free hn
  unfold fDisp1T at hp
  cases ey : fk ρ with
  | er => rw [ey] at hp; exact hp.elim
  | ex c fs =>
    rw [ey] at hp
    refine ⟨S, ρ, hm.step s0, ?_⟩
    rw [ey]
    exact Post.step s0 hp
  | ok y =>
    refine ⟨S, ρ, hm.step s0, ?_⟩
    rw [ey]
    intro a S1 H1 _ s1 o1 _ _
    cases ez : fv ρ with
    | er => rw [ey, Res.bind_ok, ez] at hp; exact hp.elim
    | ex c fs =>
      rw [ey, Res.bind_ok, ez] at hp
      refine ⟨S1, ρ, (hm.step s0).step s1, ?_⟩
      rw [ez]
      exact Post.step (s0.trans s1) hp
    | ok z =>
      refine ⟨S1, ρ, (hm.step s0).step s1, ?_⟩
      rw [ez]
      intro b S2 H2 _ s2 o2 _ _
      rw [ey, Res.bind_ok, ez, Res.bind_ok] at hp
      split at hp
      · rename_i kk ek
        obtain ⟨c, rfl, hc⟩ := keyT_ok (o1.1.mono s2.ss) ek
        have s12 := s1.trans s2
        have hp2 : H2 p = some (.dT []) := s12.hh _ _ upd_same
        have sp2 : S2 p = none := s12.out sp upd_same
        refine ⟨c, kk, rfl, s2.sub _ _ hc, hp2, hp _ S2 _ [p] ((s0.trans s12).write sp2 hn) ⟨p, [(kk, b)], [z], rfl, rfl, rfl, sp2, upd_same, ?_⟩ (by simp) fun a z => ?_⟩
        · exact RepL.nil.snoc o2.1
        · have : a = p := by simpa using z
          rw [this]; exact hn
      · exact hp.elim
end
end Da
namespace Da
open PySem PySem.Spec L2
section
variable {α β γ : Type} {e : α → D} {f : β → D} {ρ : Env} {fa fb : Env → Res D}
theorem op_mul {i j : Int} : Rf (dMul (.int i) (.int j)) (mulR i j) D.int := by
  unfold mulR
  split
  · rename_i h; exact dMul_int h
  · trivial
theorem op_div {i j : Int} : Rf (dDiv (.int i) (.int j)) (divR i j) D.int := by
  unfold divR
  split
  · rename_i h
    show (if divOk i j = true then Res.ok (D.int (i.fdiv j)) else .er) = _
    rw [if_pos (show divOk i j = true from stuck_iff.mpr ⟨by omega, h.2⟩), Int.fdiv_eq_ediv_of_nonneg i (by omega)]
  · split
    · rename_i h
      show (if divOk i j = true then Res.ok (D.int (i.fdiv j)) else .er) = _
      have hf : i.fdiv j = -i / -j := by
        have h1 : i.fdiv j = (-i).fdiv (-j) := (Int.neg_fdiv_neg i j).symm
        rw [h1, Int.fdiv_eq_ediv_of_nonneg _ (by omega)]
      rw [if_pos (show divOk i j = true from stuck_iff.mpr ⟨by omega, h.2⟩), hf]
    · trivial
theorem op_mod {i j : Int} : Rf (dMod (.int i) (.int j)) (modR i j) D.int := by
  unfold modR
  split
  · rename_i h; exact dMod_pos h
  · trivial
theorem op_divp {i j : Int} (h : 0 < j) (h9 : j < 18446744073709551616) : dDiv (.int i) (.int j) = .ok (.int (i / j)) := dDiv_64 h h9
theorem op_modp {i j : Int} (h : 0 < j) : dMod (.int i) (.int j) = .ok (.int (i % j)) := dMod_pos h
theorem op_pow {i j : Int} : Rf (dPow (.int i) (.int j)) (powR i j) D.int := by
  unfold powR
  split
  · rename_i h; exact if_pos h
  · trivial
theorem atI_mapN {xs : List α} {i : Int} : atI (xs.map e) i = (atI xs i).map e := by
  unfold atI ixN
  rw [List.length_map]
  split <;> (try split) <;> simp
theorem op_ixL {xs : List α} {i : Int} : Rf (dIx (eL e xs) (.int i)) (ixR xs i) e := by
  unfold ixR
  cases h : atI xs i with
  | some x => exact dIx_lst (by rw [atI_mapN, h]; rfl)
  | none => trivial
theorem op_ixT {xs : List α} {i : Int} : Rf (dIx (eT e xs) (.int i)) (ixR xs i) e := by
  unfold ixR
  cases h : atI xs i with
  | some x => exact dIx_tup (by rw [atI_mapN, h]; rfl)
  | none => trivial
theorem op_ixF {xs : List α} {i : Int} : Rf (dIx (eF e xs) (.int i)) (ixR xs i) e := by
  unfold ixR
  cases h : atI xs i with
  | some x => exact dIx_frl (by rw [atI_mapN, h]; rfl)
  | none => trivial
theorem op_catLL {xs ys : List α} : Rf (dAddL (eL e xs) (eL e ys)) (catR xs ys) (eL e) := by
  unfold catR
  split
  · rename_i h
    show (if szOk ((xs.map e).length + (ys.map e).length) = true then Res.ok (D.lst (xs.map e ++ ys.map e)) else .er) = Res.ok (D.lst ((xs ++ ys).map e))
    rw [List.length_map, List.length_map, h, List.map_append]; rfl
  · trivial
theorem op_rep {xs : List α} {k : Int} : Rf (dRep (eL e xs) (.int k)) (repR xs k) (eL e) := by
  unfold repR
  split
  · rename_i h
    show (if repOk (xs.map e).length k = true then Res.ok (D.lst (List.replicate k.toNat (xs.map e)).flatten) else .er) = Res.ok (D.lst (((List.replicate k.toNat xs).flatten).map e))
    rw [List.length_map, h, List.map_flatten, List.map_replicate]; rfl
  · trivial
theorem op_lenL {xs : List α} : dLen (eL e xs) = .ok (.int xs.length) := by show Res.ok (D.int (xs.map e).length) = _; rw [List.length_map]
theorem op_lenT {xs : List α} : dLen (eT e xs) = .ok (.int xs.length) := by show Res.ok (D.int (xs.map e).length) = _; rw [List.length_map]
theorem op_lenF {xs : List α} : dLen (eF e xs) = .ok (.int xs.length) := by show Res.ok (D.int (xs.map e).length) = _; rw [List.length_map]
theorem op_trL {xs : List α} : trD (eL e xs) = .ok (!xs.isEmpty) := by show Res.ok (!(xs.map e).isEmpty) = _; rw [List.isEmpty_map]
theorem op_allL {xs : List Bool} : dAll (eL D.bl xs) = .ok (.bl (xs.all id)) := by show (match boolsD (xs.map D.bl) with | some ns => Res.ok (D.bl (ns.all id)) | none => .er) = _; rw [boolsD_map]
theorem op_sortL {xs : List Int} : dSorted (eL D.int xs) = .ok (eL D.int (xs.mergeSort leI)) := dSorted_lst
theorem op_sortT {xs : List Int} : dSorted (eT D.int xs) = .ok (eL D.int (xs.mergeSort leI)) := dSorted_tup
theorem op_cutL {xs : List α} {lo hi : Option Int} : dCut (eL e xs) lo hi = .ok (eL e (cutN xs lo hi)) := by
  show Res.ok (D.lst (cutD (xs.map e) lo hi)) = Res.ok (D.lst ((cutN xs lo hi).map e))
  unfold cutD cutN
  rw [List.length_map, List.map_take, List.map_drop]
theorem evCut {f : Env → Res D} {fl fh : Env → Res (Option Int)} {g : D → Option Int → Option Int → Res D} {x z : D} {l h : Option Int} (hf : f ρ = .ok x) (hl : fl ρ = .ok l) (hh : fh ρ = .ok h) (hg : g x l h = .ok z) : fCut g f fl fh ρ = .ok z := by
  unfold fCut
  rw [hf]; show (fl ρ).bind _ = _
  rw [hl]; show (fh ρ).bind _ = _
  rw [hh]; exact hg
theorem rf_chk {n : Nat} {m : List D → Res D} {ds : List D} {r : Res α} (h : Rf (m ds) r e) (hl : ds.length = n) : Rf (chk n m ds) r e := by
  unfold chk; rw [if_pos hl]; exact h
theorem ev_chk {n : Nat} {m : List D → Res D} {ds : List D} {d : D} (h : m ds = .ok d) (hl : ds.length = n) : chk n m ds = .ok d := by
  unfold chk; rw [if_pos hl]; exact h
theorem it_L {xs : List α} (h : fa ρ = .ok (eL e xs)) : fL fa ρ = .ok (xs.map e) := evL h rfl
theorem it_T {xs : List α} (h : fa ρ = .ok (eT e xs)) : fL fa ρ = .ok (xs.map e) := evL h rfl
theorem it_F {xs : List α} (h : fa ρ = .ok (eF e xs)) : fL fa ρ = .ok (xs.map e) := evL h rfl
theorem rng_mapI {lo : Int} {n : Nat} : rng lo n = (rngI lo n).map D.int := by unfold rng rngI; rw [List.map_map]; rfl
theorem it_R1 {fs : Env → Res (List D)} {j : Int} (h : fs ρ = .ok [.int j]) : Rf (fR1 fs ρ) (rngR j) (fun xs => xs.map D.int) := by
  unfold fR1
  rw [h]
  show Rf (if rngOk 0 j = true then Res.ok (rng 0 j.toNat) else .er) _ _
  unfold rngR
  split
  · rw [rng_mapI]; rfl
  · trivial
theorem it_R2 {fs : Env → Res (List D)} {i j : Int} (h : fs ρ = .ok [.int i, .int j]) : Rf (fR2 fs ρ) (rng2R i j) (fun xs => xs.map D.int) := by
  unfold fR2
  rw [h]
  show Rf (if rngOk i j = true then Res.ok (rng i (j - i).toNat) else .er) _ _
  unfold rng2R
  split
  · rw [rng_mapI]; rfl
  · trivial
theorem op_listR {j : Int} (h : fa ρ = .ok (.int j)) : Rf (fListR1 fa ρ) (rngLR j) (eL D.int) := by
  unfold fListR1
  rw [h]
  show Rf (if rgnOk 0 j = true then Res.ok (D.lst (rng 0 (j - 0).toNat)) else .er) _ _
  unfold rngLR
  split
  · rw [rng_mapI, Int.sub_zero]; rfl
  · trivial
theorem op_tupleR {j : Int} (h : fa ρ = .ok (.int j)) : Rf (fTupleR1 fa ρ) (rngLR j) (eT D.int) := by
  unfold fTupleR1
  rw [h]
  show Rf (if rgnOk 0 j = true then Res.ok (D.tup (rng 0 (j - 0).toNat)) else .er) _ _
  unfold rngLR
  split
  · rw [rng_mapI, Int.sub_zero]; rfl
  · trivial
theorem enum_map : ∀ {xs : List α} {i : Nat}, enumD i (xs.map e) = (enumI i xs).map (eP2 D.int e)
  | [], _ => rfl
  | x :: xs, i => by
    show D.tup [.int (i : Int), e x] :: enumD (i + 1) (xs.map e) = _
    rw [enum_map]
    rfl
theorem it_enT {xs : List α} (h : fa ρ = .ok (eT e xs)) : fEnum (fA fa fA0) ρ = .ok ((enumI 0 xs).map (eP2 D.int e)) := by
  unfold fEnum
  rw [evA h rfl, ← enum_map]
  rfl
end
section
variable {α β γ α' : Type} {ex : α → D} {e : β → D} {vs vs1 : List Nat} {it it1 : Env → Res (List D)} {g g1 : D → Env → Res Env} {c c1 : Env → Res Bool} {f : Env → Res D} {ρ : Env}
theorem lcGo_rf {rc : α → Res Bool} {rf : α → Res β} {E1 : α → Env} (hg : ∀ x, g (ex x) ρ = .ok (E1 x)) (hc : ∀ x, Rf (c (E1 x)) (rc x) (fun b => b)) (hf : ∀ x, Rf (f (E1 x)) (rf x) e) : ∀ xs : List α, match lcR.go rc rf xs with
    | .ok ys => lcGo g c f ρ (xs.map ex) = .ok (ys.map e)
    | .ex _ _ => False
    | .er => True
  | [] => rfl
  | x :: xs => by
    have ih := lcGo_rf hg hc hf xs
    unfold lcR.go
    rw [List.map_cons]
    unfold lcGo
    rw [hg]
    have h1 := hc x
    have h2 := hf x
    cases q : rc x with
    | ok b =>
      rw [q] at h1
      have h1 : c (E1 x) = .ok b := h1
      dsimp only
      rw [h1]
      cases b with
      | true =>
        cases q2 : rf x with
        | ok y =>
          rw [q2] at h2
          have h2 : f (E1 x) = .ok (e y) := h2
          dsimp only
          rw [h2]
          cases q3 : lcR.go rc rf xs with
          | ok ys => rw [q3] at ih; dsimp only at ih ⊢; rw [ih]; rfl
          | ex _ _ => rw [q3] at ih; exact ih.elim
          | er => exact trivial
        | ex _ _ => exact trivial
        | er => exact trivial
      | false => exact ih
    | ex _ _ => exact trivial
    | er => exact trivial
theorem rf_lcp {rc : α → Res Bool} {rf : α → Res β} {xs : List α} (hi : it ρ = .ok (xs.map ex)) (E1 : α → Env) (hg : ∀ x, g (ex x) (wipeD ρ vs) = .ok (E1 x)) (hc : ∀ x, Rf (c (E1 x)) (rc x) (fun b => b)) (hf : ∀ x, Rf (f (E1 x)) (rf x) e) : Rf (fLc vs it g c f ρ) (lcR xs rc rf) (eL e) := by
  unfold fLc lcR
  rw [hi]
  show Rf (if szOk (xs.map ex).length = true then asLst (lcGo g c f (wipeD ρ vs) (xs.map ex)) else .er) _ _
  rw [List.length_map]
  split
  · have := lcGo_rf hg hc hf xs
    cases q : lcR.go rc rf xs with
    | ok ys => rw [q] at this; dsimp only at this; rw [this]; exact rfl
    | ex _ _ => rw [q] at this; exact this.elim
    | er => exact trivial
  · exact trivial
theorem rf_lc {rc : α → Res Bool} {rf : α → Res β} {rxs : Res (List α)} (hi : Rf (it ρ) rxs (fun xs => xs.map ex)) (E1 : α → Env) (hg : ∀ x, g (ex x) (wipeD ρ vs) = .ok (E1 x)) (hc : ∀ x, Rf (c (E1 x)) (rc x) (fun b => b)) (hf : ∀ x, Rf (f (E1 x)) (rf x) e) : Rf (fLc vs it g c f ρ) (rxs.bind fun xs => lcR xs rc rf) (eL e) := by
  cases rxs with
  | ok xs => exact rf_lcp hi E1 hg hc hf
  | ex cn fs =>
    show fLc vs it g c f ρ = _
    unfold fLc
    rw [show it ρ = _ from hi]
    rfl
  | er => exact trivial
theorem lc2Go_rf {rc : α → Res Bool} {i1 : α → Res (List β)} {c1r : α → β → Res Bool} {rf : α → β → Res γ} {ey : β → D} {ez : γ → D} {E1 : α → Env} {E2 : α → β → Env} (hg : ∀ x, g (ex x) ρ = .ok (E1 x)) (hc : ∀ x, Rf (c (E1 x)) (rc x) (fun b => b))
    (hi1 : ∀ x, Rf (it1 (E1 x)) (i1 x) (fun ys => ys.map ey)) (hg1 : ∀ x y, g1 (ey y) (wipeD (E1 x) vs1) = .ok (E2 x y)) (hc1 : ∀ x y, Rf (c1 (E2 x y)) (c1r x y) (fun b => b)) (hf : ∀ x y, Rf (f (E2 x y)) (rf x y) ez) : ∀ xs : List α, match lc2R.go rc i1 c1r rf xs with
    | .ok ys => lc2Go g c vs1 it1 g1 c1 f ρ (xs.map ex) = .ok (ys.map ez)
    | .ex _ _ => False
    | .er => True
  | [] => rfl
  | x :: xs => by
    have ih := lc2Go_rf hg hc hi1 hg1 hc1 hf xs
    unfold lc2R.go
    rw [List.map_cons]
    unfold lc2Go
    rw [hg]
    have h1 := hc x
    have h2 := hi1 x
    cases q : rc x with
    | ok b =>
      rw [q] at h1
      have h1 : c (E1 x) = .ok b := h1
      dsimp only
      rw [h1]
      cases b with
      | true =>
        cases q2 : i1 x with
        | ok ys =>
          rw [q2] at h2
          have h2 : it1 (E1 x) = .ok (ys.map ey) := h2
          dsimp only
          rw [h2]
          have h3 := lcGo_rf (hg1 x) (hc1 x) (hf x) ys
          cases q3 : lcR.go (c1r x) (rf x) ys with
          | ok zs =>
            rw [q3] at h3
            dsimp only at h3
            simp only [nx_ok, Res.bind_ok, if_true, q3, h3]
            cases q4 : lc2R.go rc i1 c1r rf xs with
            | ok ws => rw [q4] at ih; dsimp only at ih ⊢; rw [ih]; simp only [Res.bind_ok, List.map_append]
            | ex _ _ => rw [q4] at ih; exact ih.elim
            | er => exact trivial
          | ex _ _ => rw [q3] at h3; exact h3.elim
          | er => simp only [nx_ok, Res.bind_ok, if_true, q3, Res.bind_er]
        | ex _ _ => exact trivial
        | er => exact trivial
      | false => exact ih
    | ex _ _ => exact trivial
    | er => exact trivial
theorem rf_lc2p {rc : α → Res Bool} {i1 : α → Res (List β)} {c1r : α → β → Res Bool} {rf : α → β → Res γ} {ey : β → D} {ez : γ → D} {xs : List α} (hi : it ρ = .ok (xs.map ex)) (E1 : α → Env) (E2 : α → β → Env) (hg : ∀ x, g (ex x) (wipeD ρ vs) = .ok (E1 x)) (hc : ∀ x, Rf (c (E1 x)) (rc x) (fun b => b))
    (hi1 : ∀ x, Rf (it1 (E1 x)) (i1 x) (fun ys => ys.map ey)) (hg1 : ∀ x y, g1 (ey y) (wipeD (E1 x) vs1) = .ok (E2 x y)) (hc1 : ∀ x y, Rf (c1 (E2 x y)) (c1r x y) (fun b => b)) (hf : ∀ x y, Rf (f (E2 x y)) (rf x y) ez) : Rf (fLc2 vs it g c vs1 it1 g1 c1 f ρ) (lc2R xs rc i1 c1r rf) (eL ez) := by
  unfold fLc2 lc2R
  rw [hi]
  show Rf (match lc2Go g c vs1 it1 g1 c1 f (wipeD ρ vs) (xs.map ex) with
    | .ok ys => if szOk ys.length = true then .ok (D.lst ys) else .er
    | _ => .er) _ _
  have := lc2Go_rf hg hc hi1 hg1 hc1 hf xs
  cases q : lc2R.go rc i1 c1r rf xs with
  | ok ys =>
    rw [q] at this
    dsimp only at this
    rw [this]
    dsimp only
    show Rf _ (if szOk ys.length = true then Res.ok ys else .er) _
    rw [List.length_map]
    split
    · exact rfl
    · exact trivial
  | ex _ _ => rw [q] at this; exact this.elim
  | er => exact trivial
theorem rf_lc2 {rc : α → Res Bool} {i1 : α → Res (List β)} {c1r : α → β → Res Bool} {rf : α → β → Res γ} {ey : β → D} {ez : γ → D} {rxs : Res (List α)} (hi : Rf (it ρ) rxs (fun xs => xs.map ex)) (E1 : α → Env) (E2 : α → β → Env) (hg : ∀ x, g (ex x) (wipeD ρ vs) = .ok (E1 x)) (hc : ∀ x, Rf (c (E1 x)) (rc x) (fun b => b))
    (hi1 : ∀ x, Rf (it1 (E1 x)) (i1 x) (fun ys => ys.map ey)) (hg1 : ∀ x y, g1 (ey y) (wipeD (E1 x) vs1) = .ok (E2 x y)) (hc1 : ∀ x y, Rf (c1 (E2 x y)) (c1r x y) (fun b => b)) (hf : ∀ x y, Rf (f (E2 x y)) (rf x y) ez) : Rf (fLc2 vs it g c vs1 it1 g1 c1 f ρ) (rxs.bind fun xs => lc2R xs rc i1 c1r rf) (eL ez) := by
  cases rxs with
  | ok xs => exact rf_lc2p hi E1 E2 hg hc hi1 hg1 hc1 hf
  | ex cn fs =>
    show fLc2 vs it g c vs1 it1 g1 c1 f ρ = _
    unfold fLc2
    rw [show it ρ = _ from hi]
    rfl
  | er => exact trivial
theorem rf_lcN2 {e1 : α → D} {e2 : β → D} {r1 : Res α} {r2 : Res β} {d1 d2 : D} {ρ1 ρ2 : Env} (hi : it ρ = .ok [d1, d2]) (hg1 : g d1 (wipeD ρ vs) = .ok ρ1) (hg2 : g d2 (wipeD ρ vs) = .ok ρ2) (hf1 : Rf (f ρ1) r1 e1) (hf2 : Rf (f ρ2) r2 e2) : Rf (fLc vs it g fYes f ρ) ((nx r1).bind fun x => (nx r2).bind fun y => .ok (x, y)) (eH2 e1 e2) := by
  unfold fLc
  rw [hi]
  show Rf (if szOk 2 = true then asLst (lcGo g fYes f (wipeD ρ vs) [d1, d2]) else .er) _ _
  rw [if_pos (szOk_yes (by decide))]
  cases r1 with
  | ok y =>
    cases r2 with
    | ok z => simp only [lcGo, hg1, hg2, fYes, show f ρ1 = _ from hf1, show f ρ2 = _ from hf2, if_true]; exact rfl
    | _ => exact trivial
  | _ => exact trivial
end
section
variable {α β γ δ σ : Type} {ex : α → D} {e : β → D} {vs : List Nat} {it : Env → Res (List D)} {g : D → Env → Res Env} {F G : FS} {ρ : Env} {K : Res Fl → Res δ} {o : γ → δ}
def ctlO {σ β : Type} (E : σ → Env) (e : β → D) : Ctl σ β → Fl
  | .go s => .nx (E s)
  | .out s => .bk (E s)
  | .ret v => .rt (e v)
def LoopC {σ β : Type} (E : σ → Env) (e : β → D) (m : Res Fl) (r : Res (Ctl σ β)) : Prop := match r with
  | .ok (.go s') => m = .ok (.nx (E s'))
  | .ok (.out _) => False
  | .ok (.ret v) => m = .ok (.rt (e v))
  | .ex c fs => ∃ ρ, m = .ok (.xc c fs ρ)
  | .er => True
def LoopR {σ : Type} (E : σ → Env) (m : Res Fl) (r : Res σ) : Prop := match r with
  | .ok s' => m = .ok (.nx (E s'))
  | .ex c fs => ∃ ρ, m = .ok (.xc c fs ρ)
  | .er => True
theorem finL_nx {vs : List Nat} {m : Res Fl} {ρ : Env} (h : finL vs m = .ok (.nx ρ)) : fgt vs m = .ok (.nx ρ) ∨ fgt vs m = .ok (.ct ρ) := by
  unfold finL at h
  split at h <;> cases h
  · exact .inl rfl
  · exact .inr rfl
theorem finL_bk {vs : List Nat} {m : Res Fl} {ρ : Env} (h : finL vs m = .ok (.bk ρ)) : fgt vs m = .ok (.bk ρ) := by
  unfold finL at h
  split at h <;> cases h
  rfl
theorem finL_rt {vs : List Nat} {m : Res Fl} {d : D} (h : finL vs m = .ok (.rt d)) : fgt vs m = .ok (.rt d) := by
  unfold finL at h
  split at h <;> cases h
  rfl
theorem finL_ex {vs : List Nat} {m : Res Fl} {c : Str} {fs : List (Str × D)} (h : finL vs m = .ex c fs) : ∃ ρ, fgt vs m = .ok (.xc c fs ρ) := by
  unfold finL at h
  split at h <;> cases h
  exact ⟨_, rfl⟩
theorem finL_end {vs : List Nat} {N : Res γ} {o : γ → Fl} (h : Rf (finL vs (fSeq F fNext ρ)) N o) : Rf (finL vs (F ρ)) N o := t_end h
theorem forGo_C {E : σ → Env} {E1 : σ → α → Env} {f : σ → α → Res (Ctl σ β)} (hg : ∀ s x, g (ex x) (E s) = .ok (E1 s x)) (hb : ∀ s x, Rf (finL vs (fSeq F fNext (E1 s x))) (f s x) (ctlO E e)) : ∀ (xs : List α) (s : σ), LoopC E e (forGo g (fFgt vs F) (xs.map ex) (E s)) (forC f xs s)
  | [], s => rfl
  | x :: xs, s => by
    unfold forC
    rw [List.map_cons]
    unfold forGo
    rw [hg]
    have h := finL_end (hb s x)
    cases q : f s x with
    | ok c =>
      rw [q] at h
      cases c with
      | go s' =>
        have ih := forGo_C hg hb xs s'
        rcases finL_nx h with h | h
        · dsimp only [Res.bind_ok, fFgt]
          rw [h]
          exact ih
        · dsimp only [Res.bind_ok, fFgt]
          rw [h]
          exact ih
      | out s' =>
        dsimp only [Res.bind_ok, fFgt]
        rw [finL_bk h]; exact rfl
      | ret v =>
        dsimp only [Res.bind_ok, fFgt]
        rw [finL_rt h]; exact rfl
    | ex c fs =>
      rw [q] at h
      obtain ⟨ρ1, h⟩ := finL_ex h
      dsimp only [Res.bind_ex, fFgt]
      rw [h]
      exact ⟨ρ1, rfl⟩
    | er => exact trivial
theorem forGo_R {E : σ → Env} {E1 : σ → α → Env} {f : σ → α → Res σ} (hg : ∀ s x, g (ex x) (E s) = .ok (E1 s x)) (hb : ∀ s x, Rf (finL vs (fSeq F fNext (E1 s x))) (f s x) (fun s => .nx (E s))) : ∀ (xs : List α) (s : σ), LoopR E (forGo g (fFgt vs F) (xs.map ex) (E s)) (forR f xs s)
  | [], s => rfl
  | x :: xs, s => by
    unfold forR
    rw [List.map_cons]
    unfold forGo
    rw [hg]
    have h := finL_end (hb s x)
    cases q : f s x with
    | ok s' =>
      rw [q] at h
      have ih := forGo_R hg hb xs s'
      rcases finL_nx h with h | h
      · dsimp only [Res.bind_ok, fFgt]
        rw [h]
        exact ih
      · dsimp only [Res.bind_ok, fFgt]
        rw [h]
        exact ih
    | ex c fs =>
      rw [q] at h
      obtain ⟨ρ1, h⟩ := finL_ex h
      dsimp only [Res.bind_ex, fFgt]
      rw [h]
      exact ⟨ρ1, rfl⟩
    | er => exact trivial
/-- a loop that neither breaks nor returns -/
theorem s_forp {f : σ → α → Res σ} {xs : List α} {s0 : σ} (hi : it ρ = .ok (xs.map ex)) (E : σ → Env) (E1 : σ → α → Env) (h0 : ρ = E s0) (hg : ∀ s x, g (ex x) (E s) = .ok (E1 s x)) (hb : ∀ s x, Rf (finL vs (fSeq F fNext (E1 s x))) (f s x) (fun s => .nx (E s))) : Rf (finS [] (fFor it g (fFgt vs F) ρ)) (forR f xs s0) (fun s => .nx (E s)) := by
  have h := forGo_R hg hb xs s0
  rw [fFor_ap hi]
  cases q : forR f xs s0 with
  | ok s' => rw [q] at h; have h : _ = _ := h; rw [h0, h]; exact rfl
  | ex c fs => rw [q] at h; obtain ⟨ρ1, h⟩ := h; rw [h0, h]; exact rfl
  | er => exact trivial
theorem s_for {f : σ → α → Res σ} {rxs : Res (List α)} {s0 : σ} (hi : Rf (it ρ) rxs (fun xs => xs.map ex)) (E : σ → Env) (E1 : σ → α → Env) (h0 : ρ = E s0) (hg : ∀ s x, g (ex x) (E s) = .ok (E1 s x)) (hb : ∀ s x, Rf (finL vs (fSeq F fNext (E1 s x))) (f s x) (fun s => .nx (E s))) : Rf (finS [] (fFor it g (fFgt vs F) ρ)) (rxs.bind fun xs => forR f xs s0) (fun s => .nx (E s)) := by
  cases rxs with
  | ok xs => exact s_forp hi E E1 h0 hg hb
  | ex c fs =>
    show finS [] (lift (it ρ) ρ _) = _
    rw [show it ρ = _ from hi]
    rfl
  | er => exact trivial
/-- a loop that may return -/
def ctlK {σ β γ : Type} (k : σ → Res γ) (rk : β → γ) (o : Ctl σ β) : Res γ := match o with
  | .go s => k s
  | .out s => k s
  | .ret v => .ok (rk v)
theorem t_forCp (hK : Fin K) {f : σ → α → Res (Ctl σ β)} {xs : List α} {s0 : σ} {k : σ → Res γ} {rk : β → γ} (hi : it ρ = .ok (xs.map ex)) (E : σ → Env) (E1 : σ → α → Env) (h0 : ρ = E s0) (hg : ∀ s x, g (ex x) (E s) = .ok (E1 s x)) (hb : ∀ s x, Rf (finL vs (fSeq F fNext (E1 s x))) (f s x) (ctlO E e))
    (hk : ∀ s, Rf (K (G (E s))) (k s) o) (hr : ∀ v, K (.ok (.rt (e v))) = .ok (o (rk v))) : Rf (K (fSeq (fFor it g (fFgt vs F)) G ρ)) ((forC f xs s0).bind (ctlK k rk)) o := by
  have h := forGo_C hg hb xs s0
  have e1 : fSeq (fFor it g (fFgt vs F)) G ρ = andThen (forGo g (fFgt vs F) (xs.map ex) (E s0)) G := by
    rw [fSeq_ap, fFor_ap hi, h0]
  rw [e1]
  cases q : forC f xs s0 with
  | ok c =>
    rw [q] at h
    cases c with
    | go s' => have h : _ = _ := h; rw [h]; exact hk s'
    | out s' => exact h.elim
    | ret v => have h : _ = _ := h; rw [h]; exact hr v
  | ex c fs => rw [q] at h; obtain ⟨ρ1, h⟩ := h; rw [h]; exact hK.xc _ _ _
  | er => exact trivial
theorem t_forC (hK : Fin K) {f : σ → α → Res (Ctl σ β)} {rxs : Res (List α)} {s0 : σ} {k : σ → Res γ} {rk : β → γ} (hi : Rf (it ρ) rxs (fun xs => xs.map ex)) (E : σ → Env) (E1 : σ → α → Env) (h0 : ρ = E s0) (hg : ∀ s x, g (ex x) (E s) = .ok (E1 s x)) (hb : ∀ s x, Rf (finL vs (fSeq F fNext (E1 s x))) (f s x) (ctlO E e))
    (hk : ∀ s, Rf (K (G (E s))) (k s) o) (hr : ∀ v, K (.ok (.rt (e v))) = .ok (o (rk v))) : Rf (K (fSeq (fFor it g (fFgt vs F)) G ρ)) (rxs.bind fun xs => (forC f xs s0).bind (ctlK k rk)) o := by
  cases rxs with
  | ok xs => exact t_forCp hK hi E E1 h0 hg hb hk hr
  | ex c fs =>
    have : fSeq (fFor it g (fFgt vs F)) G ρ = .ok (.xc c fs ρ) := by
      show andThen (lift (it ρ) ρ _) G = _
      rw [show it ρ = _ from hi]
      rfl
    rw [this]
    exact hK.xc _ _ _
  | er => exact trivial
theorem whileGo_C {c : Env → Res Bool} {E : σ → Env} {rc : σ → Res Bool} {f : σ → Res (Ctl σ β)} (hc : ∀ s, Rf (c (E s)) (rc s) (fun b => b)) (hb : ∀ s, Rf (finL vs (fSeq F fNext (E s))) (f s) (ctlO E e)) : ∀ (n : Nat) (s : σ), LoopC E e (whileGo c (fFgt vs F) n (E s)) (whileC rc f n s)
  | 0, s => trivial
  | n + 1, s => by
    unfold whileC whileGo
    have h1 := hc s
    cases q1 : rc s with
    | ok b =>
      rw [q1] at h1
      rw [show c (E s) = _ from h1]
      cases b with
      | false => exact rfl
      | true =>
        have h := finL_end (hb s)
        dsimp only [Res.bind_ok, lift_ok]
        rw [if_pos rfl, if_pos rfl]
        cases q : f s with
        | ok c' =>
          rw [q] at h
          cases c' with
          | go s' =>
            have ih := whileGo_C hc hb n s'
            rcases finL_nx h with h | h
            · dsimp only [Res.bind_ok, fFgt]
              rw [h]
              exact ih
            · dsimp only [Res.bind_ok, fFgt]
              rw [h]
              exact ih
          | out s' =>
            dsimp only [Res.bind_ok, fFgt]
            rw [finL_bk h]; exact rfl
          | ret v =>
            dsimp only [Res.bind_ok, fFgt]
            rw [finL_rt h]; exact rfl
        | ex c fs =>
          rw [q] at h
          obtain ⟨ρ1, h⟩ := finL_ex h
          dsimp only [Res.bind_ex, fFgt]
          rw [h]
          exact ⟨ρ1, rfl⟩
        | er => exact trivial
    | ex c' fs =>
      rw [q1] at h1
      rw [show c (E s) = _ from h1]
      exact ⟨_, rfl⟩
    | er => exact trivial
theorem s_while {c : Env → Res Bool} {rc : σ → Res Bool} {f : σ → Res (Ctl σ Unit)} {s0 : σ} (E : σ → Env) (h0 : ρ = E s0) (hc : ∀ s, Rf (c (E s)) (rc s) (fun b => b)) (hb : ∀ s, Rf (finL vs (fSeq F fNext (E s))) (f s) (ctlO E eN)) : Rf (finS [] (fWhile c (fFgt vs F) ρ)) ((whileC rc f FUEL s0).bind ctlS) (fun s => .nx (E s)) := by
  have h := whileGo_C hc hb FUEL s0
  unfold fWhile
  cases q : whileC rc f FUEL s0 with
  | ok c =>
    rw [q] at h
    cases c with
    | go s' => have h : _ = _ := h; rw [h0, h]; exact rfl
    | out s' => exact h.elim
    | ret v => exact trivial
  | ex c fs => rw [q] at h; obtain ⟨ρ1, h⟩ := h; rw [h0, h]; exact rfl
  | er => exact trivial
end
end Da
namespace Da
open PySem PySem.Spec L2
section
variable {α β γ δ σ : Type} {K : Res Fl → Res δ} {F G : FS} {ρ : Env} {f fa fb fj : Env → Res D} {e : α → D} {i j : Nat} {r : Res α} {N : Res γ} {o : γ → δ} {fs : Env → Res (List D)} {c : Env → Res Bool} {g1 : D → Res D} {g2 : D → D → Res D}
theorem rf_bv {rb : Res Bool} {m : Res Bool} (h : Rf m rb (fun b => b)) : Rf (m.bind fun b => .ok (.bl b)) rb D.bl := by
  cases rb with
  | ok b => rw [show m = _ from h]; rfl
  | ex c fs => rw [show m = _ from h]; rfl
  | er => trivial
theorem b_iB {m : Res D} {rb : Res Bool} (h : Rf m rb D.bl) : Rf (m.bind asB) rb (fun b => b) := by
  cases rb with
  | ok b => rw [show m = _ from h]; rfl
  | ex c fs => rw [show m = _ from h]; rfl
  | er => trivial
theorem b_iT {m : Res D} {rb : Res Bool} (h : Rf m rb D.bl) : Rf (m.bind trD) rb (fun b => b) := by
  cases rb with
  | ok b => rw [show m = _ from h]; rfl
  | ex c fs => rw [show m = _ from h]; rfl
  | er => trivial
theorem b_iL {m : Res D} {r : Res (List α)} {q : List α → D} (h : Rf m r q) (hq : ∀ xs, asL (q xs) = .ok (xs.map e)) : Rf (m.bind asL) r (fun xs => xs.map e) := by
  cases r with
  | ok b => rw [show m = _ from h]; exact hq b
  | ex c fs => rw [show m = _ from h]; rfl
  | er => trivial
theorem evChain {g g' : D → D → Res D} {fc : Env → Res D} {x y z : D} {a b : Bool} (ha : fa ρ = .ok x) (hb : fb ρ = .ok y) (hc : fc ρ = .ok z) (h1 : g x y = .ok (.bl a)) (h2 : g' y z = .ok (.bl b)) : fChain g g' fa fb fc ρ = .ok (.bl (a && b)) := by
  unfold fChain
  rw [ha]; show (fb ρ).bind _ = _
  rw [hb]; show (g x y).bind _ = _
  rw [h1]
  cases a with
  | true => show (fc ρ).bind _ = _; rw [hc]; exact h2
  | false => rfl
theorem it_row2 {d1 d2 : D} {t : D} (h : fa ρ = .ok t) (ht : asL t = .ok [d1, d2] := by rfl) : fL fa ρ = .ok [d1, d2] := evL h ht
theorem q_f1 (h : Rf ((fa ρ).bind g1) N o') : Rf (f1 g1 fa ρ) N o' := h
theorem q_f2 (h : Rf ((fa ρ).bind fun x => (fb ρ).bind fun y => g2 x y) N o') : Rf (f2 g2 fa fb ρ) N o' := h
theorem q_on {g : List D → Res D} (h : Rf ((fs ρ).bind g) N o') : Rf (fOn g fs ρ) N o' := h
theorem q_B {o' : γ → Bool} (h : Rf ((f ρ).bind asB) N o') : Rf (fB f ρ) N o' := h
theorem q_Bv {o' : γ → D} (h : Rf ((c ρ).bind fun b => .ok (.bl b)) N o') : Rf (fBv c ρ) N o' := h
theorem q_Tr {o' : γ → Bool} (h : Rf ((f ρ).bind trD) N o') : Rf (fTr f ρ) N o' := h
theorem q_Not {o' : γ → Bool} (h : Rf ((c ρ).bind fun c => .ok (!c)) N o') : Rf (fNot c ρ) N o' := h
theorem q_L {o' : γ → List D} (h : Rf ((f ρ).bind asL) N o') : Rf (fL f ρ) N o' := h
theorem q_R1 {o' : γ → List D} (h : Rf ((fs ρ).bind gRng1) N o') : Rf (fR1 fs ρ) N o' := h
theorem q_R2 {o' : γ → List D} (h : Rf ((fs ρ).bind gRng2) N o') : Rf (fR2 fs ρ) N o' := h
theorem k_R1 {j : Int} : Rf (gRng1 [.int j]) (rngR j) (fun xs => xs.map D.int) := it_R1 (ρ := []) (fs := fun _ => .ok [.int j]) rfl
theorem k_R2 {i j : Int} : Rf (gRng2 [.int i, .int j]) (rng2R i j) (fun xs => xs.map D.int) := it_R2 (ρ := []) (fs := fun _ => .ok [.int i, .int j]) rfl
theorem set_p {d : D} {ρ' : Env} (hf : f ρ = .ok d) (h : ρ.set i (some d) = ρ') : fSet i f ρ = .ok (.nx ρ') := by
  show lift (f ρ) ρ _ = _
  rw [hf, ← h]
  rfl
theorem s_lift {α : Type} {m : Res α} {k : α → Res Fl} {d : α} {N : Res γ} {o : γ → Fl} (h : m = .ok d) (hk : Rf (finS [] (k d)) N o) : Rf (finS [] (lift m ρ k)) N o := by rw [h]; exact hk
theorem s_liftI {α τ : Type} {m : Res α} {k : α → Res Fl} {r : Res τ} {e : τ → α} {N : τ → Res γ} {o : γ → Fl} (h : Rf m r e) (hk : ∀ x, Rf (finS [] (k (e x))) (N x) o) : Rf (finS [] (lift m ρ k)) (r.bind N) o := by
  cases r with
  | ok v => rw [show m = _ from h]; exact hk v
  | ex c fs => rw [show m = _ from h]; exact rfl
  | er => exact trivial
theorem fApp_at {xs : List D} (h : ρ[i]? = some (some (.lst xs))) : fApp i f ρ = lift (f ρ) ρ fun d => if szOk (xs.length + 1) = true then .ok (.nx (ρ.set i (some (.lst (xs ++ [d]))))) else .er := by unfold fApp; rw [h]
theorem k_app {xs : List α} {d : α} (E : List α → Env) (hE : ∀ ys, ρ.set i (some (eL e ys)) = E ys) : Rf (finS [] (if szOk ((xs.map e).length + 1) = true then .ok (.nx (ρ.set i (some (.lst (xs.map e ++ [e d]))))) else .er)) (appR xs d) (fun ys => .nx (E ys)) := by
  unfold appR
  rw [List.length_map]
  split
  · show Res.ok (Fl.nx _) = Res.ok (Fl.nx _)
    rw [← hE, show eL e (xs ++ [d]) = .lst (xs.map e ++ [e d]) by unfold eL; rw [List.map_append]; rfl]
    rfl
  · trivial
theorem s_app {xs : List α} {d : α} (E : List α → Env) (h : ρ[i]? = some (some (eL e xs))) (hf : f ρ = .ok (e d)) (hE : ∀ ys, ρ.set i (some (eL e ys)) = E ys) : Rf (finS [] (fApp i f ρ)) (appR xs d) (fun ys => .nx (E ys)) := by
  rw [fApp_at h]
  exact s_lift hf (k_app E hE)
theorem s_appI {xs : List α} {r : Res α} (E : List α → Env) (h : ρ[i]? = some (some (eL e xs))) (hf : Rf (f ρ) r e) (hE : ∀ ys, ρ.set i (some (eL e ys)) = E ys) : Rf (finS [] (fApp i f ρ)) (r.bind fun d => appR xs d) (fun ys => .nx (E ys)) := by
  rw [fApp_at h]
  exact s_liftI hf fun d => k_app E hE
theorem fSetIx_at {xs : List D} (h : ρ[i]? = some (some (.lst xs))) : fSetIx i f fj ρ = lift (f ρ) ρ fun d => lift (fj ρ) ρ fun j => match j with
    | .int z => (match ixN xs.length z with
      | some k => .ok (.nx (ρ.set i (some (.lst (xs.set k d)))))
      | none => .er)
    | _ => .er := by unfold fSetIx; rw [h]; try rfl
theorem s_setIx {xs : List α} {d : α} {z : Int} (E : List α → Env) (h : ρ[i]? = some (some (eL e xs))) (hf : f ρ = .ok (e d)) (hj : fj ρ = .ok (.int z)) (hE : ∀ ys, ρ.set i (some (eL e ys)) = E ys) : Rf (finS [] (fSetIx i f fj ρ)) (setR xs z d) (fun ys => .nx (E ys)) := by
  rw [fSetIx_at h]
  refine s_lift hf (s_lift hj ?_)
  unfold setR
  dsimp only
  rw [List.length_map]
  cases ixN xs.length z with
  | some k =>
    show Res.ok (Fl.nx _) = Res.ok (Fl.nx _)
    rw [← hE, show eL e (xs.set k d) = .lst ((xs.map e).set k (e d)) by unfold eL; rw [List.map_set]]
    rfl
  | none => trivial
theorem s_setIxJ {xs : List α} {d : α} {rj : Res Int} (E : List α → Env) (h : ρ[i]? = some (some (eL e xs))) (hf : f ρ = .ok (e d)) (hj : Rf (fj ρ) rj D.int) (hE : ∀ ys, ρ.set i (some (eL e ys)) = E ys) : Rf (finS [] (fSetIx i f fj ρ)) (rj.bind fun z => setR xs z d) (fun ys => .nx (E ys)) := by
  cases rj with
  | ok z => exact s_setIx E h hf hj hE
  | ex c fs => rw [fSetIx_at h, hf, show fj ρ = _ from hj]; exact rfl
  | er => trivial
theorem s_setIxIJ {xs : List α} {r : Res α} {rj : Res Int} (E : List α → Env) (h : ρ[i]? = some (some (eL e xs))) (hf : Rf (f ρ) r e) (hj : Rf (fj ρ) rj D.int) (hE : ∀ ys, ρ.set i (some (eL e ys)) = E ys) : Rf (finS [] (fSetIx i f fj ρ)) (r.bind fun d => rj.bind fun z => setR xs z d) (fun ys => .nx (E ys)) := by
  cases r with
  | ok d => exact s_setIxJ E h hf hj hE
  | ex c fs => rw [fSetIx_at h, show f ρ = _ from hf]; exact rfl
  | er => trivial
theorem s_app2 {xs : List (List α)} {d : α} {z : Int} (E : List (List α) → Env) (h : ρ[i]? = some (some (eL (eL e) xs))) (hf : f ρ = .ok (e d)) (hj : fj ρ = .ok (.int z)) (hE : ∀ ys, ρ.set i (some (eL (eL e) ys)) = E ys) : Rf (finS [] (fApp2 i fj f ρ)) (app2R xs z d) (fun ys => .nx (E ys)) := by
  unfold fApp2
  rw [h]
  refine s_lift hj ?_
  unfold app2R
  dsimp only [eL]
  rw [List.length_map]
  cases ixN xs.length z with
  | some k =>
    dsimp only
    rw [List.getElem?_map]
    cases q : xs[k]? with
    | some us =>
      dsimp only [Option.map]
      refine s_lift hf ?_
      rw [List.length_map]
      split
      · show Res.ok (Fl.nx _) = Res.ok (Fl.nx _)
        rw [← hE, show eL (eL e) (xs.set k (us ++ [d])) = .lst ((xs.map (eL e)).set k (.lst (us.map e ++ [e d]))) by
          unfold eL; rw [List.map_set, List.map_append]; rfl]
        rfl
      · trivial
    | none => trivial
  | none => trivial
/-- pops -/
def RfX {α τ : Type} (m : Res (D × Env)) (r : Res (α × τ)) (e : α → D) (E : τ → Env) : Prop := match r with
  | .ok v => m = .ok (e v.1, E v.2)
  | _ => True
theorem x_pop {xs : List α} {z : Int} (E : List α → Env) (h : ρ[i]? = some (some (eL e xs))) (hf : f ρ = .ok (.int z)) (hE : ∀ ys, ρ.set i (some (eL e ys)) = E ys) : RfX (fPop i f ρ) (popR xs z) e E := by
  unfold fPop
  rw [h, hf]
  unfold popR
  dsimp only [eL]
  rw [List.length_map]
  cases q : ixN xs.length z with
  | some k =>
    dsimp only
    rw [List.getElem?_map]
    cases q2 : xs[k]? with
    | some y =>
      dsimp only [Option.map]
      split
      · rename_i hs
        show Res.ok _ = Res.ok _
        rw [← hE]
        show Res.ok (e y, ρ.set i (some (.lst ((xs.map e).eraseIdx k)))) = Res.ok (e y, ρ.set i (some (.lst ((xs.eraseIdx k).map e))))
        rw [show (xs.map e).eraseIdx k = (xs.eraseIdx k).map e by
          rw [List.eraseIdx_eq_take_drop_succ, List.eraseIdx_eq_take_drop_succ, List.map_append, List.map_take, List.map_drop]]
      · trivial
    | none => trivial
  | none => trivial
theorem x_popI {xs : List α} {rz : Res Int} (E : List α → Env) (h : ρ[i]? = some (some (eL e xs))) (hf : Rf (f ρ) rz D.int) (hE : ∀ ys, ρ.set i (some (eL e ys)) = E ys) : RfX (fPop i f ρ) ((nx rz).bind fun z => popR xs z) e E := by
  cases rz with
  | ok z => exact x_pop E h hf hE
  | _ => trivial
theorem x_pop0 {xs : List α} (E : List α → Env) (h : ρ[i]? = some (some (eL e xs))) (hE : ∀ ys, ρ.set i (some (eL e ys)) = E ys) : RfX (fPop0 i ρ) (pop0R xs) e E := by
  unfold fPop0
  rw [h]
  unfold pop0R
  dsimp only [eL]
  rw [List.length_map, List.getElem?_map]
  cases q : xs[xs.length - 1]? with
  | some y =>
    dsimp only [Option.map]
    show Res.ok _ = Res.ok _
    rw [← hE]
    show Res.ok (e y, ρ.set i (some (.lst ((xs.map e).dropLast)))) = Res.ok (e y, ρ.set i (some (.lst ((xs.dropLast).map e))))
    rw [← List.map_dropLast]
  | none => trivial
theorem s_setX {τ : Type} {f : Env → Res (D × Env)} {r : Res (α × τ)} {E1 : τ → Env} (E : α × τ → Env) (hf : RfX (f ρ) r e E1) (hE : ∀ v, (E1 v.2).set i (some (e v.1)) = E v) : Rf (finS [] (fSetX i f ρ)) (nx r) (fun s => .nx (E s)) := by
  cases r with
  | ok v =>
    show finS [] (fSetX i f ρ) = _
    unfold fSetX
    rw [show f ρ = .ok (e v.1, E1 v.2) from hf]
    dsimp only
    rw [hE]
    rfl
  | _ => trivial
theorem s_appX {τ : Type} {f : Env → Res (D × Env)} {r : Res (α × τ)} {E1 : τ → Env} {xs : List α} (E : List α × τ → Env) (h : ρ[i]? = some (some (eL e xs))) (hf : RfX (f ρ) r e E1) (h1 : ∀ t, (E1 t)[i]? = some (some (eL e xs))) (hE : ∀ ys t, (E1 t).set i (some (eL e ys)) = E (ys, t)) :
    Rf (finS [] (fAppX i f ρ)) ((nx r).bind fun v => (appR xs v.1).bind fun ys => .ok (ys, v.2)) (fun s => .nx (E s)) := by
  cases r with
  | ok v =>
    show Rf _ ((appR xs v.1).bind fun ys => .ok (ys, v.2)) _
    unfold fAppX
    rw [h]
    dsimp only [eL]
    rw [show f ρ = .ok (e v.1, E1 v.2) from hf]
    dsimp only
    rw [h1]
    unfold appR
    dsimp only [eL]
    rw [List.length_map]
    split
    · show Res.ok (Fl.nx _) = Res.ok (Fl.nx _)
      rw [← hE, show eL e (xs ++ [v.1]) = .lst (xs.map e ++ [e v.1]) by unfold eL; rw [List.map_append]; rfl]
      rfl
    · trivial
  | _ => trivial
theorem s_fld {c fn : Str} {ns : List Str} {ds : List D} (E : α → Env) (hρ : ρ[i]? = some (some (.obj c ns ds))) (hn : ns.length < 100) (hf : Rf (f ρ) r e) (hE : ∀ v, ρ.set i (some (.obj c (putN fn ns) (putD fn (e v) ns ds))) = E v) : Rf (finS [] (fFld c fn i f ρ)) r (fun s => .nx (E s)) := by
  have h : fFld c fn i f ρ = lift (f ρ) ρ fun d => .ok (.nx (ρ.set i (some (.obj c (putN fn ns) (putD fn d ns ds))))) := by
    unfold fFld
    rw [hρ]
    dsimp only
    rw [if_pos ⟨rfl, hn⟩]
  rw [h]
  cases r with
  | ok v => rw [show f ρ = .ok (e v) from hf]; show finS [] (.ok (.nx _)) = _; rw [hE]; rfl
  | ex c fs => rw [show f ρ = _ from hf]; rfl
  | er => trivial
theorem fld_hit {c f : Str} {ns : List Str} {d : D} {ds : List D} : dFld c f (.obj c (f :: ns) (d :: ds)) = .ok d := by
  unfold dFld
  dsimp only
  rw [if_pos rfl]
  unfold lookF
  rw [if_pos rfl]
theorem fld_skip {c f g : Str} {ns : List Str} {x d : D} {ds : List D} (h : g ≠ f) (k : dFld c f (.obj c ns ds) = .ok d) : dFld c f (.obj c (g :: ns) (x :: ds)) = .ok d := by
  unfold dFld at k ⊢
  dsimp only at k ⊢
  rw [if_pos rfl] at k ⊢
  unfold lookF
  rw [if_neg h]
  exact k
end
class Dat {α : Type} [DecidableEq α] (e : α → D) (k : outParam Nat) : Prop where
  py : ∀ x, ∃ y, D.py (e x) = some y ∧ y.canLay0 = true ∧ y.depth ≤ k
  inj : ∀ x x' y y', D.py (e x) = some y → D.py (e x') = some y' → PyData.eqv y y' = decide (x = x')
section
variable {α β : Type} [DecidableEq α] [DecidableEq β] {e : α → D} {f : β → D} {k l : Nat}
instance : Dat D.int 0 where
  py x := ⟨.int x, rfl, rfl, by simp [PyData.depth]⟩
  inj x x' y y' h h' := by
    cases h; cases h'
    simp only [PyData.eqv]
    by_cases hx : x = x' <;> simp [hx]
instance : Dat D.bl 0 where
  py x := ⟨.bool x, rfl, rfl, by simp [PyData.depth]⟩
  inj x x' y y' h h' := by
    cases h; cases h'
    cases x <;> cases x' <;> rfl
theorem pys_map [Dat e k] : ∀ xs : List α, ∃ ys, D.pys (xs.map e) = some ys ∧ PyData.canLayAll0 ys = true ∧ PyData.depthAll ys ≤ k
  | [] => ⟨[], rfl, rfl, by simp [PyData.depthAll]⟩
  | x :: xs => by
    obtain ⟨y, h1, h2, h3⟩ := Dat.py (e := e) x
    obtain ⟨ys, k1, k2, k3⟩ := pys_map xs
    refine ⟨y :: ys, ?_, ?_, ?_⟩
    · rw [List.map_cons]; unfold D.pys; rw [h1, k1]
    · simp only [PyData.canLayAll0, h2, k2, Bool.and_self]
    · simp only [PyData.depthAll]; omega
theorem pys_inj [Dat e k] : ∀ (xs xs' : List α) (ys ys' : List PyData), D.pys (xs.map e) = some ys → D.pys (xs'.map e) = some ys' → PyData.eqvAll ys ys' = decide (xs = xs')
  | [], [], ys, ys', h, h' => by cases h; cases h'; simp [PyData.eqvAll]
  | [], x' :: xs', ys, ys', h, h' => by
    cases h
    rw [List.map_cons] at h'
    unfold D.pys at h'
    split at h'
    · cases h'; simp [PyData.eqvAll]
    · cases h'
  | x :: xs, [], ys, ys', h, h' => by
    cases h'
    rw [List.map_cons] at h
    unfold D.pys at h
    split at h
    · cases h; simp [PyData.eqvAll]
    · cases h
  | x :: xs, x' :: xs', ys, ys', h, h' => by
    rw [List.map_cons] at h h'
    unfold D.pys at h h'
    split at h
    · rename_i y zs e1 e2
      cases h
      split at h'
      · rename_i y' zs' e1' e2'
        cases h'
        rw [PyData.eqvAll, Dat.inj x x' _ _ e1 e1', pys_inj xs xs' _ _ e2 e2']
        by_cases h1 : x = x' <;> by_cases h2 : xs = xs' <;> simp [h1, h2]
      · cases h'
    · cases h
theorem py_lst' {ds : List D} {ys : List PyData} (h : D.pys ds = some ys) : D.py (.lst ds) = some (.list ys) := by unfold D.py; rw [h]
theorem py_tup' {ds : List D} {ys : List PyData} (h : D.pys ds = some ys) : D.py (.tup ds) = some (.tuple ys) := by unfold D.py; rw [h]
theorem py_lst_of {ds : List D} {y : PyData} (h : D.py (.lst ds) = some y) : ∃ ys, D.pys ds = some ys ∧ y = .list ys := by
  unfold D.py at h
  split at h
  · rename_i ys e; cases h; exact ⟨ys, e, rfl⟩
  · cases h
theorem py_tup_of {ds : List D} {y : PyData} (h : D.py (.tup ds) = some y) : ∃ ys, D.pys ds = some ys ∧ y = .tuple ys := by
  unfold D.py at h
  split at h
  · rename_i ys e; cases h; exact ⟨ys, e, rfl⟩
  · cases h
instance [Dat e k] : Dat (eL e) (k + 1) where
  py xs := by
    obtain ⟨ys, h1, h2, h3⟩ := pys_map (e := e) xs
    refine ⟨.list ys, py_lst' h1, ?_, ?_⟩
    · simp only [PyData.canLay0, h2]
    · simp only [PyData.depth]; omega
  inj x x' y y' h h' := by
    obtain ⟨ys, h1, rfl⟩ := py_lst_of h
    obtain ⟨ys', h1', rfl⟩ := py_lst_of h'
    simp only [PyData.eqv]
    exact pys_inj _ _ _ _ h1 h1'
instance [Dat e k] : Dat (eT e) (k + 1) where
  py xs := by
    obtain ⟨ys, h1, h2, h3⟩ := pys_map (e := e) xs
    refine ⟨.tuple ys, py_tup' h1, ?_, ?_⟩
    · simp only [PyData.canLay0, h2]
    · simp only [PyData.depth]; omega
  inj x x' y y' h h' := by
    obtain ⟨ys, h1, rfl⟩ := py_tup_of h
    obtain ⟨ys', h1', rfl⟩ := py_tup_of h'
    simp only [PyData.eqv]
    exact pys_inj _ _ _ _ h1 h1'
theorem pys2 {a b : D} {y z : PyData} (h1 : D.py a = some y) (h2 : D.py b = some z) : D.pys [a, b] = some [y, z] := by simp [D.pys, h1, h2]
theorem pys2_of {a b : D} {ys : List PyData} (h : D.pys [a, b] = some ys) : ∃ y z, D.py a = some y ∧ D.py b = some z ∧ ys = [y, z] := by
  unfold D.pys at h
  split at h
  · rename_i y zs e1 e2
    unfold D.pys at e2
    split at e2
    · rename_i z ws e3 e4
      cases e4; cases e2; cases h
      exact ⟨y, z, e1, e3, rfl⟩
    · cases e2
  · cases h
instance [Dat e k] [Dat f l] : Dat (eP2 e f) (max k l + 1) where
  py x := by
    obtain ⟨y, h1, h2, h3⟩ := Dat.py (e := e) x.1
    obtain ⟨z, k1, k2, k3⟩ := Dat.py (e := f) x.2
    refine ⟨.tuple [y, z], py_tup' (pys2 h1 k1), ?_, ?_⟩
    · simp only [PyData.canLay0, PyData.canLayAll0, h2, k2, Bool.and_self]
    · simp only [PyData.depth, PyData.depthAll]; omega
  inj x x' y y' h h' := by
    obtain ⟨ys, h1, rfl⟩ := py_tup_of h
    obtain ⟨ys', h1', rfl⟩ := py_tup_of h'
    obtain ⟨a, b, ea, eb, rfl⟩ := pys2_of h1
    obtain ⟨a', b', ea', eb', rfl⟩ := pys2_of h1'
    simp only [PyData.eqv, PyData.eqvAll, Dat.inj _ _ _ _ ea ea', Dat.inj _ _ _ _ eb eb']
    by_cases h1 : x.1 = x'.1 <;> by_cases h2 : x.2 = x'.2 <;> simp [h1, h2, Prod.ext_iff]
instance [Dat e k] : Dat (eP1 e) (k + 1) where
  py x := by
    obtain ⟨y, h1, h2, h3⟩ := Dat.py (e := e) x
    refine ⟨.tuple [y], py_tup' (by simp [D.pys, h1]), ?_, ?_⟩
    · simp only [PyData.canLay0, PyData.canLayAll0, h2, Bool.and_self]
    · simp only [PyData.depth, PyData.depthAll]; omega
  inj x x' y y' h h' := by
    obtain ⟨ys, h1, rfl⟩ := py_tup_of h
    obtain ⟨ys', h1', rfl⟩ := py_tup_of h'
    have q := pys_inj (e := e) [x] [x'] _ _ h1 h1'
    simp only [PyData.eqv]
    rw [q]
    by_cases h1 : x = x' <;> simp [h1]
theorem shp [Dat e k] (hk : k ≤ 64) {x : α} {y : PyData} (h : D.py (e x) = some y) : SeqAt.shaped y = true := by
  obtain ⟨y', h1, h2, h3⟩ := Dat.py (e := e) x
  rw [h] at h1
  cases h1
  unfold SeqAt.shaped
  rw [h2, decide_eq_true (show y.depth ≤ 64 by omega)]
  rfl
theorem eqD_dat [Dat e k] {x x' : α} (hk : k ≤ 64) : eqD (e x) (e x') = .ok (decide (x = x')) := by
  obtain ⟨y, h1, _⟩ := Dat.py (e := e) x
  obtain ⟨y', h1', _⟩ := Dat.py (e := e) x'
  unfold eqD
  rw [h1, h1']
  simp only [shp hk h1, shp hk h1', Bool.and_self, if_true, Dat.inj x x' _ _ h1 h1']
theorem op_eq [Dat e k] {x x' : α} (hk : k ≤ 64 := by decide) : dEq (e x) (e x') = .ok (.bl (decide (x = x'))) := by unfold dEq; rw [eqD_dat hk]; rfl
theorem op_ne [Dat e k] {x x' : α} (hk : k ≤ 64 := by decide) : dNe (e x) (e x') = .ok (.bl (!decide (x = x'))) := by unfold dNe; rw [eqD_dat hk]; rfl
theorem any_in [Dat e k] {x : α} {y : PyData} (hy : D.py (e x) = some y) : ∀ {xs : List α} {ys : List PyData}, D.pys (xs.map e) = some ys → (ys.any fun z => PyData.eqv z y) = decide (x ∈ xs)
  | [], ys, h => by cases h; simp
  | a :: xs, ys, h => by
    rw [List.map_cons] at h
    unfold D.pys at h
    split at h
    · rename_i z zs e1 e2
      cases h
      rw [List.any_cons, any_in hy e2, Dat.inj a x _ _ e1 hy]
      by_cases h1 : a = x
      · simp [h1]
      · simp [h1, Ne.symm h1]
    · cases h
theorem inD_dat [Dat e k] {x : α} {xs : List α} (hk : k < 64) : inD (e x) (xs.map e) = .ok (decide (x ∈ xs)) := by
  obtain ⟨y, h1, _⟩ := Dat.py (e := e) x
  obtain ⟨ys, k1, k2, k3⟩ := pys_map (e := e) xs
  unfold inD
  rw [h1, k1]
  have hs : SeqAt.shaped (.list ys) = true := by
    unfold SeqAt.shaped
    simp only [PyData.canLay0, PyData.depth, k2, Bool.true_and]
    exact decide_eq_true (by omega)
  simp only [shp (by omega) h1, hs, Bool.and_self, if_true, any_in h1 k1]
theorem op_nmemL [Dat e k] {x : α} {xs : List α} (hk : k < 64 := by decide) : dNotIn (e x) (eL e xs) = .ok (.bl (!decide (x ∈ xs))) := by
  show (inD (e x) (xs.map e)).bind _ = _; rw [inD_dat hk]; rfl
theorem op_nmemT [Dat e k] {x : α} {xs : List α} (hk : k < 64 := by decide) : dNotIn (e x) (eT e xs) = .ok (.bl (!decide (x ∈ xs))) := by
  show (inD (e x) (xs.map e)).bind _ = _; rw [inD_dat hk]; rfl
end
theorem isi_of {T : String} {d : D} {b : Bool} (h : isTy T d = .ok b) : dIsi T d = .ok (.bl b) := by unfold dIsi; rw [h]; rfl
theorem isi2_a {T U : String} {d : D} (h : isTy T d = .ok true) : dIsi2 T U d = .ok (.bl true) := by unfold dIsi2; rw [h]; rfl
theorem isi2_b {T U : String} {d : D} {b : Bool} (h : isTy T d = .ok false) (k : isTy U d = .ok b) : dIsi2 T U d = .ok (.bl b) := by unfold dIsi2; rw [h]; show (isTy U d).bind _ = _; rw [k]; rfl
theorem forR_inv {α σ : Type} {f : σ → α → Res σ} {xs : List α} {s : σ} (P : Nat → σ → Prop) (h0 : P 0 s) (hs : ∀ i x s, xs[i]? = some x → P i s → ∃ s', f s x = .ok s' ∧ P (i + 1) s') : ∃ s', forR f xs s = .ok s' ∧ P xs.length s' := by
  suffices h : ∀ (ys : List α) (k : Nat) (s : σ), P k s → (∀ i x, ys[i]? = some x → xs[k + i]? = some x) → k + ys.length = xs.length → ∃ s', forR f ys s = .ok s' ∧ P xs.length s' by
    exact h xs 0 s h0 (fun i x e => by rw [Nat.zero_add]; exact e) (Nat.zero_add _)
  intro ys
  induction ys with
  | nil => intro k s hp _ hl; exact ⟨s, rfl, by rw [← hl]; exact hp⟩
  | cons y ys ih =>
    intro k s hp hx hl
    obtain ⟨s1, e1, p1⟩ := hs k y s (by have := hx 0 y rfl; simpa using this) hp
    obtain ⟨s2, e2, p2⟩ := ih (k + 1) s1 p1 (fun i x e => by
      have := hx (i + 1) x (by simpa using e)
      rw [show k + 1 + i = k + (i + 1) by omega]; exact this) (by rw [List.length_cons] at hl; omega)
    exact ⟨s2, by unfold forR; rw [e1]; exact e2, p2⟩
theorem lcR_map {α β : Type} {xs : List α} {f : α → Res β} {g : α → β} (hz : xs.length ≤ 1000000) (h : ∀ x ∈ xs, f x = .ok (g x)) : lcR xs (fun _ => .ok true) f = .ok (xs.map g) := by
  unfold lcR
  rw [if_pos (szOk_yes hz)]
  clear hz
  induction xs with
  | nil => rfl
  | cons x xs ih =>
    unfold lcR.go
    rw [h x List.mem_cons_self, ih fun y hy => h y (List.mem_cons_of_mem _ hy)]
    rfl
end Da
namespace Da
theorem op_isN {α : Type} {e : α → D} (h : ∀ v, dIsN (e v) = .ok (.bl false)) {x : Option α} : dIsN (eO e x) = .ok (.bl (Option.isNone x)) := by
  cases x with
  | none => rfl
  | some v => exact h v
end Da
namespace Da
open PySem PySem.Spec L2
section
variable {α β γ δ : Type} {K : Res Fl → Res δ} {F G : FS} {ρ : Env} {r : Res γ} {o : γ → δ} {c : Str} {ns : List Str} {fs : Env → Res (List D)} {l : List (Str × Bool)} {i k : Nat}
theorem rf_ex {m : Res β} {e : α → β} {fs : List (Str × D)} (h : m = .ex c fs) : Rf m (.ex c fs : Res α) e := h
theorem t_raise (hK : Fin K) (h : Rf ((fs ρ).bind fun ds => if ds.length = ns.length then (.ex c (ns.zip ds).reverse : Res δ) else .er) r o) : Rf (K (fSeq (fRaise c ns fs) G ρ)) r o := by
  unfold fSeq fRaise
  cases e : fs ρ with
  | ok ds =>
    rw [e] at h
    have h : Rf (if ds.length = ns.length then (.ex c (ns.zip ds).reverse : Res δ) else .er) r o := h
    show Rf (K (match (if ds.length = ns.length then .ok (.xc c (ns.zip ds).reverse ρ) else .er : Res Fl) with | .ok (.nx ρ') => G ρ' | o => o)) r o
    split at h
    · rename_i hl
      rw [if_pos hl]
      show Rf (K (.ok (.xc c (ns.zip ds).reverse ρ))) r o
      rw [hK.xc]
      exact h
    · cases r with
      | ok v => exact nomatch (show (Res.er : Res δ) = _ from h)
      | ex c fs => exact nomatch (show (Res.er : Res δ) = _ from h)
      | er => exact trivial
  | ex c' fs' =>
    rw [e] at h
    show Rf (K (.ok (.xc c' fs' ρ))) r o
    rw [hK.xc]
    exact h
  | er =>
    rw [e] at h
    cases r with
    | ok v => exact nomatch (show (Res.er : Res δ) = _ from h)
    | ex c fs => exact nomatch (show (Res.er : Res δ) = _ from h)
    | er => exact trivial
/-- a clause -/
def tryR (l : List (Str × Bool)) (r : Res γ) (g : Str → List (Str × D) → Res γ) : Res γ := match r with
  | .ex c fs => (match askOf l c with
    | some true => nx (g c fs)
    | some false => .ex c fs
    | none => .er)
  | r => r
@[simp] theorem tryR_ok {v : γ} {g : Str → List (Str × D) → Res γ} : tryR l (.ok v) g = .ok v := rfl
theorem t_tryF {md : Md} {r : Res γ} {o : γ → D} {g : Str → List (Str × D) → Res γ} (hF : Rf (finF md (F ρ)) r o) (hG : ∀ c fs, Rf (finF md (G (envX k i c fs))) (g c fs) o) : Rf (finF md (fTry k i l F G ρ)) (tryR l r g) o := by
  cases r with
  | er => exact trivial
  | ok v =>
    have hF : finF md (F ρ) = .ok (o v) := hF
    unfold fTry
    cases e : F ρ with
    | er => rw [e] at hF; cases hF
    | ex c fs => rw [e] at hF; cases hF
    | ok q =>
      rw [e] at hF
      cases q with
      | xc c fs ρ1 => cases hF
      | _ => exact hF
  | ex c fs =>
    have hF : finF md (F ρ) = .ex c fs := hF
    have : ∃ ρ1, F ρ = .ok (.xc c fs ρ1) := by
      cases e : F ρ with
      | er => rw [e] at hF; cases hF
      | ex c fs => rw [e] at hF; cases hF
      | ok q =>
        rw [e] at hF
        cases q with
        | xc c' fs' ρ1 => cases hF; exact ⟨ρ1, rfl⟩
        | nx ρ' =>
          have hF : (if md = .sh then Res.ok D.non else .er) = .ex c fs := hF
          split at hF <;> cases hF
        | rt d => cases hF
        | bk ρ' => cases hF
        | ct ρ' => cases hF
    obtain ⟨ρ1, e⟩ := this
    unfold fTry tryR
    rw [e]
    dsimp only
    cases ea : askOf l c with
    | none => exact trivial
    | some b =>
      cases b with
      | false => exact rfl
      | true =>
        have hG := hG c fs
        dsimp only
        cases eg : g c fs with
        | er => exact trivial
        | ex c2 fs2 => exact trivial
        | ok v =>
          rw [eg] at hG
          have hG : finF md (G (envX k i c fs)) = .ok (o v) := hG
          show finF md (endTry i (G (envX k i c fs))) = .ok (o v)
          cases e2 : G (envX k i c fs) with
          | er => rw [e2] at hG; cases hG
          | ex c fs => rw [e2] at hG; cases hG
          | ok q =>
            rw [e2] at hG
            cases q with
            | xc c fs ρ1 => cases hG
            | bk ρ1 => cases hG
            | ct ρ1 => cases hG
            | nx ρ1 => exact hG
            | rt d => exact hG
/-- isinstance(e, ..), e.f -/
def askR (l : List (Str × Bool)) (c : Str) : Res Bool := match askOf l c with
  | some b => .ok b
  | none => .er
def fldR (cs : List Str) (f c : Str) (fs : List (Str × D)) : Res Int := if cs.contains c = true then (match fs.lookup f with
  | some (.int z) => .ok z
  | _ => .er) else .er
theorem e_isE {fs : List (Str × D)} (h : ρ[i]? = some (some (.exc c (fs.map (·.1)) (fs.map (·.2))))) : Rf (fIsE i l ρ) (askR l c) D.bl := by
  unfold fIsE askR
  rw [h]
  dsimp only
  cases askOf l c with
  | some b => exact rfl
  | none => exact trivial
theorem zip_fs : ∀ fs : List (Str × D), (fs.map (·.1)).zip (fs.map (·.2)) = fs
  | [] => rfl
  | q :: fs => by rw [List.map_cons, List.map_cons, List.zip_cons_cons, zip_fs fs]
theorem e_fldE {fs : List (Str × D)} {cs : List Str} {f : Str} (h : ρ[i]? = some (some (.exc c (fs.map (·.1)) (fs.map (·.2))))) : Rf (fFldC i f cs ρ) (fldR cs f c fs) D.int := by
  unfold fFldC fldR fFldE
  rw [h]
  dsimp only
  rw [zip_fs]
  split
  · cases fs.lookup f with
    | none => exact trivial
    | some d => cases d <;> first | exact rfl | exact trivial
  · exact trivial
theorem rf_asB {m : Res D} : Rf m (m.bind asB) D.bl := by
  cases m with
  | ok d => cases d <;> first | exact rfl | exact trivial
  | ex c fs => exact rfl
  | er => exact trivial
end
def sortPR (ps : List (Int × Int)) : Res (List (Int × Int)) := if (ps.all fun p => decide (P64 p)) = true ∧ ps.length < 64 then .ok (sortP ps) else .er
theorem pairsD_map : ∀ {ps : List (Int × Int)}, (ps.all fun p => decide (P64 p)) = true → pairsD (ps.map (eP2 D.int D.int)) = some ps
  | [], _ => rfl
  | p :: ps, h => by
    rw [List.all_cons, Bool.and_eq_true] at h
    have h1 : P64 p := of_decide_eq_true h.1
    show (match pairD (.tup [.int p.1, .int p.2]), pairsD (ps.map (eP2 D.int D.int)) with | some p, some ps => some (p :: ps) | _, _ => none) = _
    rw [pairsD_map h.2, show pairD (.tup [.int p.1, .int p.2]) = some p from if_pos h1]
theorem rf_sortSc {vs : List Nat} {it : Env → Res (List D)} {g : D → Env → Res Env} {c : Env → Res Bool} {f : Env → Res D} {ρ : Env} {r : Res (List (Int × Int))} (h : Rf (fLc vs it g c f ρ) r (eL (eP2 D.int D.int))) : Rf (fSortSc vs it g c f ρ) (r.bind sortPR) (eL (eP2 D.int D.int)) := by
  unfold fLc at h
  unfold fSortSc
  cases ei : it ρ with
  | er => rw [ei] at h; cases r with
    | er => exact trivial
    | ok v => exact nomatch (show (Res.er : Res D) = _ from h)
    | ex c fs => exact nomatch (show (Res.er : Res D) = _ from h)
  | ex c' fs' => rw [ei] at h; cases r with
    | er => exact trivial
    | ok v => exact nomatch (show (Res.ex c' fs' : Res D) = _ from h)
    | ex c fs => exact h
  | ok xs =>
    rw [ei] at h
    cases r with
    | er => exact trivial
    | ex c2 fs =>
      have h : (if szOk xs.length = true then asLst (lcGo g c f (wipeD ρ vs) xs) else .er) = Res.ex c2 fs := h
      split at h
      · unfold asLst at h
        split at h <;> cases h
      · cases h
    | ok ps =>
      have h : (if szOk xs.length = true then asLst (lcGo g c f (wipeD ρ vs) xs) else .er) = Res.ok (eL (eP2 D.int D.int) ps) := h
      split at h
      · unfold asLst at h
        split at h
        · rename_i ys ey
          have h : ys = ps.map (eP2 D.int D.int) := by
            injection h with h
            injection h
          subst h
          show Rf (match lcGo g c f (wipeD ρ vs) xs with | .ok ys => (match pairsD ys with | some ps => if ps.length < 64 then (Res.ok (D.lst ((sortP ps).map pD)) : Res D) else .er | none => .er) | _ => .er) (sortPR ps) _
          rw [ey]
          dsimp only
          unfold sortPR
          by_cases hh : (ps.all fun p => decide (P64 p)) = true ∧ ps.length < 64
          · rw [pairsD_map hh.1, if_pos hh]
            dsimp only
            rw [if_pos hh.2]
            exact rfl
          · rw [if_neg hh]
            exact trivial
        · cases h
      · cases h
def unO {α : Type} : Option α → Res α
  | some v => .ok v
  | none => .er
@[simp] theorem unO_some {α : Type} {v : α} : unO (some v) = .ok v := rfl
instance : Dat (eO D.int) 0 where
  py x := by
    cases x with
    | none => exact ⟨.none, rfl, rfl, by simp [PyData.depth]⟩
    | some v => exact ⟨.int v, rfl, rfl, by simp [PyData.depth]⟩
  inj x x' y y' h h' := by
    cases x with
    | none =>
      cases h
      cases x' with
      | none => cases h'; simp [PyData.eqv]
      | some v => cases h'; simp [PyData.eqv]
    | some u =>
      cases h
      cases x' with
      | none => cases h'; simp [PyData.eqv]
      | some v =>
        cases h'
        simp [PyData.eqv]
        by_cases h : u = v <;> simp [h]
/-- membership, by the told equality -/
def hasB {α : Type} [DecidableEq α] (x : α) (xs : List α) : Bool := @decide (x ∈ xs) (@List.instDecidableMemOfLawfulBEq α instBEqOfDecidableEq inferInstance x xs)
theorem hasB_iff {α : Type} [DecidableEq α] {x : α} {xs : List α} : hasB x xs = true ↔ x ∈ xs := by unfold hasB; exact decide_eq_true_iff
/-- by cases of what may be None -/
def optC {τ γ : Type} (x : Option τ) (n : Res γ) (f : τ → Res γ) : Res γ := match x with
  | none => n
  | some y => f y
@[simp] theorem optC_none {τ γ : Type} {n : Res γ} {f : τ → Res γ} : optC none n f = n := rfl
@[simp] theorem optC_some {τ γ : Type} {y : τ} {n : Res γ} {f : τ → Res γ} : optC (some y) n f = f y := rfl
theorem t_ifC {τ δ γ : Type} {K : Res Fl → Res δ} {F : FS} {o : γ → δ} {N : Res γ} {x : Option τ} {n2 : τ → Res γ} (E : Option τ → Env) (h1 : Rf (K (F (E none))) N o) (h2 : ∀ y, Rf (K (F (E (some y)))) (n2 y) o) : Rf (K (F (E x))) (optC x N n2) o := by
  cases x with
  | none => exact h1
  | some y => exact h2 y
end Da
namespace Da
open PySem PySem.Spec L2
section
variable {α β γ δ σ τ : Type} {K : Res Fl → Res δ} {F G : FS} {Fk : Nat → FS} {ρ : Env} {f fa fb fj fj2 : Env → Res D} {e : α → D} {i j x y k : Nat} {r : Res α} {N : Res γ} {o : γ → δ}
theorem op_cutLL {xs : List α} {lo hi : Option Int} : dCutL (eL e xs) lo hi = .ok (eL e (cutN xs lo hi)) := by
  show Res.ok (D.lst (cutD (xs.map e) lo hi)) = Res.ok (D.lst ((cutN xs lo hi).map e))
  unfold cutD cutN
  rw [List.length_map, List.map_take, List.map_drop]
variable {ex : α → D} {eb : β → D} {it : Env → Res (List D)} {g : D → Env → Res Env} {fx : Env → Res (D × Env)} {vs : List Nat}
end
end Da
namespace Da
open PySem PySem.Spec L2
def eDt {κ α : Type} (kf : κ → List Key) (e : α → D) : List (κ × α) → D := fun xs => .dit (xs.map fun p => kf p.1) (xs.map fun p => e p.2)
def kI : Int → Key := Sum.inl
def kT {κ : Type} (k : κ → Key) : List κ → List Key := fun xs => xs.map k
def dlookN {κ α : Type} [DecidableEq κ] : List (κ × α) → κ → Option α
  | [], _ => none
  | p :: xs, k => if p.1 = k then some p.2 else dlookN xs k
def dputN {κ α : Type} [DecidableEq κ] (xs : List (κ × α)) (k : κ) (v : α) : List (κ × α) := if (xs.any fun p => decide (p.1 = k)) = true then xs.map (fun p => if p.1 = k then (p.1, v) else p) else xs ++ [(k, v)]
def dgetN {κ α : Type} [DecidableEq κ] (xs : List (κ × α)) (k : κ) : Res α := match dlookN xs k with
  | some v => .ok v
  | none => .er
def dhasN {κ α : Type} [DecidableEq κ] (xs : List (κ × α)) (k : κ) : Bool := (dlookN xs k).isSome
def dputR {κ α : Type} [DecidableEq κ] (xs : List (κ × α)) (k : κ) (v : α) : Res (List (κ × α)) := if szOk (xs.length + 1) = true then .ok (dputN xs k v) else .er
def dcR {ι κ α : Type} [DecidableEq κ] (xs : List ι) (c : ι → Res Bool) (fk : ι → Res κ) (fv : ι → Res α) : Res (List (κ × α)) := if szOk xs.length = true then go xs [] else .er
where go : List ι → List (κ × α) → Res (List (κ × α))
  | [], acc => .ok acc
  | x :: xs, acc => (nx (c x)).bind fun b => if b = true then (nx (fk x)).bind fun k => (nx (fv x)).bind fun v => go xs (dputN acc k v) else go xs acc
def Inj {α β : Type} (f : α → β) : Prop := ∀ x y, f x = f y → x = y
theorem inj_kI : Inj kI := fun x y h => by unfold kI at h; injection h
theorem inj_kT {κ : Type} {k : κ → Key} (h : Inj k) : Inj (kT k) := fun x y e => List.map_inj_right h |>.mp e
theorem kd_I (x : Int) : keyD (D.int x) = some (kI x) := rfl
theorem keysD_map {κ : Type} {e : κ → D} {k : κ → Key} (h : ∀ x, keyD (e x) = some (k x)) : ∀ xs : List κ, keysD (xs.map e) = some (xs.map k)
  | [] => rfl
  | x :: xs => by
    rw [List.map_cons]
    unfold keysD
    rw [h, keysD_map h xs]
    rfl
theorem kd_T {κ : Type} {e : κ → D} {k : κ → Key} (h : ∀ x, keyD (e x) = some (k x)) (x : List κ) : keyT (eT e x) = some (kT k x) := keysD_map h x
section
variable {κ α β γ δ τ ι : Type} [DecidableEq κ] {kf : κ → Key} {kt : κ → List Key} {ek : κ → D} {e : α → D} {xs : List (κ × α)} {k : κ} {ρ : Env} {f fj fa fb : Env → Res D} {i : Nat}
theorem lookT_N (hi : Inj kt) : ∀ (xs : List (κ × α)) (k : κ), lookT (xs.map fun p => kt p.1) (xs.map fun p => e p.2) (kt k) = (dlookN xs k).map e
  | [], k => rfl
  | p :: xs, k => by
    show (if kt p.1 = kt k then some (e p.2) else lookT _ _ _) = _
    unfold dlookN
    by_cases h : p.1 = k
    · rw [if_pos h, if_pos (by rw [h])]; rfl
    · rw [if_neg h, if_neg (fun z => h (hi _ _ z))]; exact lookT_N hi xs k
theorem any_inj {β : Type} [DecidableEq β] {g : κ → β} (hi : Inj g) (xs : List (κ × α)) (k : κ) : ((xs.map fun p => g p.1).any fun j => decide (j = g k)) = xs.any fun p => decide (p.1 = k) := by
  rw [List.any_map]
  congr 1
  funext p
  show decide (g p.1 = g k) = decide (p.1 = k)
  exact decide_eq_decide.mpr ⟨fun z => hi _ _ z, fun z => by rw [z]⟩
theorem zip_mm {A B C : Type} (f : C → A) (g : C → B) (h : A × B → B) : ∀ xs : List C, ((xs.map f).zip (xs.map g)).map h = xs.map fun c => h (f c, g c)
  | [] => rfl
  | x :: xs => by rw [List.map_cons, List.map_cons, List.zip_cons_cons, List.map_cons, zip_mm f g h xs]; rfl
theorem putT_N (hi : Inj kt) (v : α) : putKsT (xs.map fun p => kt p.1) (kt k) = (dputN xs k v).map (fun p => kt p.1) ∧ putVsT (xs.map fun p => kt p.1) (xs.map fun p => e p.2) (kt k) (e v) = (dputN xs k v).map (fun p => e p.2) := by
  unfold putKsT putVsT dputN
  rw [any_inj hi]
  by_cases h : (xs.any fun p => decide (p.1 = k)) = true
  · rw [if_pos h, if_pos h, if_pos h]
    refine ⟨?_, ?_⟩
    · rw [List.map_map]
      refine List.map_congr_left fun p _ => ?_
      show kt p.1 = kt (if p.1 = k then (p.1, v) else p).1
      split <;> rfl
    · rw [zip_mm, List.map_map]
      refine List.map_congr_left fun p _ => ?_
      show (if kt p.1 = kt k then e v else e p.2) = e (if p.1 = k then (p.1, v) else p).2
      by_cases z : p.1 = k
      · rw [if_pos z, if_pos (by rw [z])]
      · rw [if_neg z, if_neg (fun w => z (hi _ _ w))]
  · rw [if_neg h, if_neg h, if_neg h]
    rw [List.map_append, List.map_append]
    exact ⟨rfl, rfl⟩
theorem op_dgetT (hk : ∀ x, keyT (ek x) = some (kt x)) (hi : Inj kt) : Rf (dGetT (eDt kt e xs) (ek k)) (dgetN xs k) e := by
  unfold dgetN
  show Rf (match eDt kt e xs, keyT (ek k) with
    | .dit ks ds, some k => (match lookT ks ds k with
      | some d => Res.ok d
      | none => .er)
    | _, _ => .er) _ _
  rw [hk]
  show Rf (match lookT (xs.map fun p => kt p.1) (xs.map fun p => e p.2) (kt k) with
      | some d => Res.ok d
      | none => .er) _ _
  rw [lookT_N hi]
  cases dlookN xs k with
  | some v => exact rfl
  | none => exact trivial
theorem op_dhasT {neg : Bool} (hk : ∀ x, keyT (ek x) = some (kt x)) (hi : Inj kt) : dHasT neg (ek k) (eDt kt e xs) = .ok (.bl (dhasN xs k != neg)) := by
  unfold dhasN
  show (match eDt kt e xs, keyT (ek k) with
    | .dit ks ds, some k => Res.ok (D.bl ((lookT ks ds k).isSome != neg))
    | _, _ => .er) = _
  rw [hk]
  show Res.ok (D.bl ((lookT (xs.map fun p => kt p.1) (xs.map fun p => e p.2) (kt k)).isSome != neg)) = _
  rw [lookT_N hi, Option.isSome_map]
theorem s_putT {r : Res α} {rj : Res κ} (hk : ∀ x, keyT (ek x) = some (kt x)) (hi : Inj kt) (E : List (κ × α) → Env) (h : ρ[i]? = some (some (eDt kt e xs))) (hf : Rf (f ρ) r e) (hj : Rf (fj ρ) rj ek) (hE : ∀ ys, ρ.set i (some (eDt kt e ys)) = E ys) : Rf (finS [] (fPutT i f fj ρ)) (r.bind fun d => rj.bind fun k => dputR xs k d) (fun ys => .nx (E ys)) := by
  unfold fPutT
  rw [h]
  dsimp only [eDt]
  refine s_liftI hf fun d => s_liftI hj fun k => ?_
  rw [hk]
  dsimp only
  unfold dputR
  rw [List.length_map]
  split
  · show Res.ok (Fl.nx _) = Res.ok (Fl.nx _)
    obtain ⟨p1, p2⟩ := putT_N (xs := xs) (k := k) (e := e) hi d
    rw [← hE, show eDt kt e (dputN xs k d) = .dit ((dputN xs k d).map fun p => kt p.1) ((dputN xs k d).map fun p => e p.2) from rfl, ← p1, ← p2]
    rfl
  · exact trivial
variable {it : Env → Res (List D)} {g : D → Env → Res Env} {c : Env → Res Bool} {fk fv : Env → Res D} {vs : List Nat} {ex : ι → D}
end
theorem op_dhasTN {κ α : Type} [DecidableEq κ] {kt : κ → List Key} {ek : κ → D} {e : α → D} {xs : List (κ × α)} {k : κ} (hk : ∀ x, keyT (ek x) = some (kt x)) (hi : Inj kt) : dHasT true (ek k) (eDt kt e xs) = .ok (.bl (!dhasN xs k)) := by rw [op_dhasT hk hi]; cases dhasN xs k <;> rfl
end Da
namespace Kx
open PySem PySem.Spec L2 Da
section
variable {α κ γ : Type} {ρ : Da.Env} {fa fb fc : Da.Env → Res D} {x y z d : D} {g3 : D → D → D → Res D} {N : Res γ} {o' : γ → D}
theorem ev3 (ha : fa ρ = .ok x) (hb : fb ρ = .ok y) (hc : fc ρ = .ok z) (hg : g3 x y z = .ok d) : f3 g3 fa fb fc ρ = .ok d := by
  unfold f3
  rw [ha]
  show (fb ρ).bind _ = _
  rw [hb]
  show (fc ρ).bind _ = _
  rw [hc]
  exact hg
end
end Kx
namespace Kx
open PySem PySem.Spec L2 Da
section
variable {α β γ δ : Type} [DecidableEq α] [DecidableEq β] [DecidableEq γ] [DecidableEq δ] {e : α → D} {f : β → D} {g : γ → D} {h : δ → D} {k l m n : Nat}
theorem pys3 {a b c : D} {ys : List PyData} (q : D.pys [a, b, c] = some ys) : ∃ x y z, ys = [x, y, z] ∧ D.py a = some x ∧ D.py b = some y ∧ D.py c = some z := by
  unfold D.pys at q
  split at q
  · rename_i x xs e1 e2
    cases q
    unfold D.pys at e2
    split at e2
    · rename_i y ys e3 e4
      cases e2
      unfold D.pys at e4
      split at e4
      · rename_i z zs e5 e6
        cases e4
        cases e6
        exact ⟨x, y, z, rfl, e1, e3, e5⟩
      · cases e4
    · cases e2
  · cases q
theorem pys4 {a b c d : D} {ys : List PyData} (q : D.pys [a, b, c, d] = some ys) : ∃ x y z w, ys = [x, y, z, w] ∧ D.py a = some x ∧ D.py b = some y ∧ D.py c = some z ∧ D.py d = some w := by
  unfold D.pys at q
  split at q
  · rename_i x xs e1 e2
    cases q
    obtain ⟨y, z, w, rfl, h2, h3, h4⟩ := pys3 e2
    exact ⟨x, y, z, w, rfl, e1, h2, h3, h4⟩
  · cases q
instance [Dat e k] [Dat f l] [Dat g m] [Dat h n] : Dat (eH4 e f g h) (max (max k l) (max m n) + 1) where
  py p := by
    obtain ⟨y1, a1, b1, c1⟩ := Dat.py (e := e) p.1
    obtain ⟨y2, a2, b2, c2⟩ := Dat.py (e := f) p.2.1
    obtain ⟨y3, a3, b3, c3⟩ := Dat.py (e := g) p.2.2.1
    obtain ⟨y4, a4, b4, c4⟩ := Dat.py (e := h) p.2.2.2
    refine ⟨.list [y1, y2, y3, y4], py_lst' ?_, ?_, ?_⟩
    · simp only [D.pys, a1, a2, a3, a4]
    · simp only [PyData.canLay0, PyData.canLayAll0, b1, b2, b3, b4, Bool.and_self]
    · simp only [PyData.depth, PyData.depthAll]; omega
  inj p q y y' u u' := by
    obtain ⟨ys, w, rfl⟩ := py_lst_of u
    obtain ⟨ys', w', rfl⟩ := py_lst_of u'
    obtain ⟨y1, y2, y3, y4, rfl, a1, a2, a3, a4⟩ := pys4 w
    obtain ⟨z1, z2, z3, z4, rfl, b1, b2, b3, b4⟩ := pys4 w'
    simp only [PyData.eqv, PyData.eqvAll, Bool.and_true]
    rw [Dat.inj p.1 q.1 _ _ a1 b1, Dat.inj p.2.1 q.2.1 _ _ a2 b2, Dat.inj p.2.2.1 q.2.2.1 _ _ a3 b3, Dat.inj p.2.2.2 q.2.2.2 _ _ a4 b4]
    obtain ⟨p1, p2, p3, p4⟩ := p
    obtain ⟨q1, q2, q3, q4⟩ := q
    by_cases h1 : p1 = q1 <;> by_cases h2 : p2 = q2 <;> by_cases h3 : p3 = q3 <;> by_cases h4 : p4 = q4 <;> simp [h1, h2, h3, h4]
instance [Dat e k] [Dat f l] [Dat g m] [Dat h n] : Dat (eP4 e f g h) (max (max k l) (max m n) + 1) where
  py p := by
    obtain ⟨y1, a1, b1, c1⟩ := Dat.py (e := e) p.1
    obtain ⟨y2, a2, b2, c2⟩ := Dat.py (e := f) p.2.1
    obtain ⟨y3, a3, b3, c3⟩ := Dat.py (e := g) p.2.2.1
    obtain ⟨y4, a4, b4, c4⟩ := Dat.py (e := h) p.2.2.2
    refine ⟨.tuple [y1, y2, y3, y4], py_tup' ?_, ?_, ?_⟩
    · simp only [D.pys, a1, a2, a3, a4]
    · simp only [PyData.canLay0, PyData.canLayAll0, b1, b2, b3, b4, Bool.and_self]
    · simp only [PyData.depth, PyData.depthAll]; omega
  inj p q y y' u u' := by
    obtain ⟨ys, w, rfl⟩ := py_tup_of u
    obtain ⟨ys', w', rfl⟩ := py_tup_of u'
    obtain ⟨y1, y2, y3, y4, rfl, a1, a2, a3, a4⟩ := pys4 w
    obtain ⟨z1, z2, z3, z4, rfl, b1, b2, b3, b4⟩ := pys4 w'
    simp only [PyData.eqv, PyData.eqvAll, Bool.and_true]
    rw [Dat.inj p.1 q.1 _ _ a1 b1, Dat.inj p.2.1 q.2.1 _ _ a2 b2, Dat.inj p.2.2.1 q.2.2.1 _ _ a3 b3, Dat.inj p.2.2.2 q.2.2.2 _ _ a4 b4]
    obtain ⟨p1, p2, p3, p4⟩ := p
    obtain ⟨q1, q2, q3, q4⟩ := q
    by_cases h1 : p1 = q1 <;> by_cases h2 : p2 = q2 <;> by_cases h3 : p3 = q3 <;> by_cases h4 : p4 = q4 <;> simp [h1, h2, h3, h4]
end
end Kx
namespace Da
open PySem PySem.Spec L2
section
variable {α β γ : Type} [DecidableEq α] [DecidableEq β] [DecidableEq γ] {e : α → D} {f : β → D} {g : γ → D} {k l m : Nat}
instance [Dat e k] [Dat f l] [Dat g m] : Dat (eP3 e f g) (max (max k l) m + 1) where
  py p := by
    obtain ⟨y1, a1, b1, c1⟩ := Dat.py (e := e) p.1
    obtain ⟨y2, a2, b2, c2⟩ := Dat.py (e := f) p.2.1
    obtain ⟨y3, a3, b3, c3⟩ := Dat.py (e := g) p.2.2
    refine ⟨.tuple [y1, y2, y3], py_tup' ?_, ?_, ?_⟩
    · simp only [D.pys, a1, a2, a3]
    · simp only [PyData.canLay0, PyData.canLayAll0, b1, b2, b3, Bool.and_self]
    · simp only [PyData.depth, PyData.depthAll]; omega
  inj p q y y' u u' := by
    obtain ⟨ys, w, rfl⟩ := py_tup_of u
    obtain ⟨ys', w', rfl⟩ := py_tup_of u'
    obtain ⟨y1, y2, y3, rfl, a1, a2, a3⟩ := Kx.pys3 w
    obtain ⟨z1, z2, z3, rfl, b1, b2, b3⟩ := Kx.pys3 w'
    simp only [PyData.eqv, PyData.eqvAll, Bool.and_true]
    rw [Dat.inj p.1 q.1 _ _ a1 b1, Dat.inj p.2.1 q.2.1 _ _ a2 b2, Dat.inj p.2.2 q.2.2 _ _ a3 b3]
    obtain ⟨p1, p2, p3⟩ := p
    obtain ⟨q1, q2, q3⟩ := q
    by_cases h1 : p1 = q1 <;> by_cases h2 : p2 = q2 <;> by_cases h3 : p3 = q3 <;> simp [h1, h2, h3]
end
end Da
namespace Da
open PySem PySem.Spec L2 PyProof.Rows
end Da
namespace Da
open PySem PySem.Spec L2
end Da
namespace Da
open PySem PySem.Spec L2
def leT (a b : List Int) : Bool := leD (eT D.int a) (eT D.int b)
theorem en_tups (xs : List (List Int)) : (xs.map (eT D.int)).map D.en = xs.map fun ns => PyData.tuple (ns.map PyData.int) := by
  rw [List.map_map]
  refine List.map_congr_left fun ns _ => ?_
  show D.en (.tup (ns.map D.int)) = _
  have h : D.py (.tup (ns.map D.int)) = some (.tuple (ns.map PyData.int)) := by
    unfold D.py
    rw [pys_ints]
  unfold D.en
  rw [h]
  rfl
theorem pys_tups : ∀ xs : List (List Int), ∃ bs, D.pys (xs.map (eT D.int)) = some bs
  | [] => ⟨[], rfl⟩
  | ns :: xs => by
    obtain ⟨bs, e⟩ := pys_tups xs
    have h : D.py (eT D.int ns) = some (.tuple (ns.map PyData.int)) := by
      show D.py (.tup (ns.map D.int)) = _
      unfold D.py
      rw [pys_ints]
    refine ⟨.tuple (ns.map PyData.int) :: bs, ?_⟩
    rw [List.map_cons]
    unfold D.pys
    rw [h, e]
theorem alikeAll_ints : ∀ ms ns : List Int, PySem.W.alikeAll (ms.map PyData.int) (ns.map PyData.int) = true
  | [], [] => by simp [PySem.W.alikeAll]
  | [], _ :: _ => by simp [PySem.W.alikeAll]
  | _ :: _, [] => by simp [PySem.W.alikeAll]
  | m :: ms, n :: ns => by
    simp only [List.map_cons, PySem.W.alikeAll, PySem.W.alike, alikeAll_ints ms ns, Bool.and_self]
theorem depthAll_ints : ∀ ns : List Int, PyData.depthAll (ns.map PyData.int) ≤ 1
  | [] => by simp [PyData.depthAll]
  | n :: ns => by
    have := depthAll_ints ns
    simp only [List.map_cons, PyData.depthAll, PyData.depth]
    omega
theorem srt_tups (xs : List (List Int)) (h : ∀ ns ∈ xs, ns ≠ []) : SrtOk (xs.map (eT D.int)) := by
  refine ⟨pys_tups xs, ?_, ?_, fun d hd => ?_⟩
  · rw [en_tups]
    exact PySem.W.AllAlike.of fun _ _ => by simp only [PySem.W.alike, alikeAll_ints]
  · rw [en_tups]
    refine .inl fun d hd => ?_
    obtain ⟨ns, hn, rfl⟩ := List.mem_map.mp hd
    cases ns with
    | nil => exact absurd rfl (h _ hn)
    | cons n ns => exact ⟨_, _, rfl⟩
  · have : d.en ∈ (xs.map (eT D.int)).map D.en := List.mem_map.mpr ⟨d, hd, rfl⟩
    rw [en_tups] at this
    obtain ⟨ns, _, e⟩ := List.mem_map.mp this
    rw [← e]
    have := depthAll_ints ns
    simp only [PyData.depth]
    omega
theorem sort_tups (xs : List (List Int)) : (xs.map (eT D.int)).mergeSort leD = (xs.mergeSort leT).map (eT D.int) :=
  (List.map_mergeSort (r := leT) (s := leD) (f := eT D.int) (l := xs) (fun a _ b _ => rfl)).symm
def sortTR (xs : List (List Int)) : Res (List (List Int)) := if (xs.all fun ns => !ns.isEmpty) = true then .ok (xs.mergeSort leT) else .er
theorem op_sortD {xs : List (List Int)} : Rf (if srtOk (xs.map (eT D.int)) = true then Res.ok (D.lst ((xs.map (eT D.int)).mergeSort leD)) else .er) (sortTR xs) (eL (eT D.int)) := by
  unfold sortTR
  by_cases h : (xs.all fun ns => !ns.isEmpty) = true
  · rw [if_pos h]
    have h : ∀ ns ∈ xs, ns ≠ [] := fun ns hn e => by
      have := List.all_eq_true.mp h ns hn
      rw [e] at this
      cases this
    rw [if_pos (show srtOk _ = true from stuck_iff.mpr (srt_tups xs h)), sort_tups]
    exact rfl
  · rw [if_neg h]
    exact trivial
theorem op_sortLT {xs : List (List Int)} : Rf (dSorted (eL (eT D.int) xs)) (sortTR xs) (eL (eT D.int)) := op_sortD
end Da
namespace Da
open PySem PySem.Spec L2 PyProof.Rows
end Da
namespace Da
open PySem PySem.Spec L2 PyProof.Rows
end Da
namespace Da
open PySem PySem.Spec L2 PyProof.Rows
end Da
namespace Da
open PySem PySem.Spec L2
section
variable {α β : Type} [DecidableEq α] [DecidableEq β] {e : α → D} {f : β → D} {k l : Nat}
instance [Dat e k] [Dat f l] : Dat (eH2 e f) (max k l + 1) where
  py x := by
    obtain ⟨y, h1, h2, h3⟩ := Dat.py (e := e) x.1
    obtain ⟨z, k1, k2, k3⟩ := Dat.py (e := f) x.2
    refine ⟨.list [y, z], py_lst' (pys2 h1 k1), ?_, ?_⟩
    · simp only [PyData.canLay0, PyData.canLayAll0, h2, k2, Bool.and_self]
    · simp only [PyData.depth, PyData.depthAll]; omega
  inj x x' y y' h h' := by
    obtain ⟨ys, h1, rfl⟩ := py_lst_of h
    obtain ⟨ys', h1', rfl⟩ := py_lst_of h'
    obtain ⟨a, b, ea, eb, rfl⟩ := pys2_of h1
    obtain ⟨a', b', ea', eb', rfl⟩ := pys2_of h1'
    simp only [PyData.eqv, PyData.eqvAll, Dat.inj _ _ _ _ ea ea', Dat.inj _ _ _ _ eb eb']
    by_cases h1 : x.1 = x'.1 <;> by_cases h2 : x.2 = x'.2 <;> simp [h1, h2, Prod.ext_iff]
end
section
variable {α β : Type}
def decI : D → Option Int
  | .int i => some i
  | _ => none
def decAll (f : D → Option α) : List D → Option (List α)
  | [] => some []
  | d :: ds => match f d, decAll f ds with
    | some a, some as => some (a :: as)
    | _, _ => none
def decT (f : D → Option α) : D → Option (List α)
  | .tup ds => decAll f ds
  | _ => none
def DecOk (f : D → Option α) (e : α → D) : Prop := ∀ d a, f d = some a → d = e a
theorem dok_I : DecOk decI D.int := fun d a h => by
  unfold decI at h
  split at h
  · cases h; rfl
  · cases h
theorem dok_all {f : D → Option α} {e : α → D} (hf : DecOk f e) : ∀ (ds : List D) (as : List α), decAll f ds = some as → ds = as.map e
  | [], as, h => by cases h; rfl
  | d :: ds, as, h => by
    unfold decAll at h
    split at h
    · rename_i a as' h1 h2
      cases h
      rw [hf d a h1, dok_all hf ds as' h2]
      rfl
    · cases h
theorem dok_T {f : D → Option α} {e : α → D} (hf : DecOk f e) : DecOk (decT f) (eT e) := fun d a h => by
  unfold decT at h
  split at h
  · rw [dok_all hf _ _ h]; rfl
  · cases h
def decR (f : D → Option α) (r : Res D) : Res α := r.bind fun d => match f d with
  | some a => .ok a
  | none => .er
theorem rf_dec {m r : Res D} {f : D → Option α} {e : α → D} (h : Rf m r (fun d => d)) (hf : DecOk f e) : Rf m (decR f r) e := by
  cases r with
  | ok d =>
    show Rf m (match f d with | some a => .ok a | none => .er) e
    cases ef : f d with
    | some a =>
      show m = .ok (e a)
      rw [show m = .ok d from h, hf d a ef]
    | none => exact trivial
  | ex c fs => exact h
  | er => exact trivial
end
end Da
namespace Da
open PySem PySem.Spec L2
section
variable {ι κ α : Type} [DecidableEq κ] {kt : κ → List Key} {ek : κ → D} {e : α → D} {ρ : Env}
variable {it : Env → Res (List D)} {g : D → Env → Res Env} {c : Env → Res Bool} {fk fv : Env → Res D} {vs : List Nat} {ex : ι → D}
theorem dcGoT_rf {rc : ι → Res Bool} {rk : ι → Res κ} {rv : ι → Res α} {E1 : ι → Env} (hK : ∀ x, keyT (ek x) = some (kt x)) (hi : Inj kt) (hg : ∀ x, g (ex x) ρ = .ok (E1 x)) (hc : ∀ x, Rf (c (E1 x)) (rc x) (fun b => b)) (hk : ∀ x, Rf (fk (E1 x)) (rk x) ek) (hv : ∀ x, Rf (fv (E1 x)) (rv x) e) : ∀ (ys : List ι) (acc : List (κ × α)), match dcR.go rc rk rv ys acc with
    | .ok w => dcGoT g c fk fv ρ (ys.map ex) (acc.map fun p => kt p.1) (acc.map fun p => e p.2) = .ok (w.map (fun p => kt p.1), w.map (fun p => e p.2))
    | .ex _ _ => False
    | .er => True
  | [], acc => rfl
  | x :: ys, acc => by
    unfold dcR.go
    rw [List.map_cons]
    unfold dcGoT
    rw [hg]
    have h1 := hc x
    cases q : rc x with
    | ok b =>
      rw [q] at h1
      have h1 : c (E1 x) = .ok b := h1
      dsimp only
      rw [h1]
      cases b with
      | false => exact dcGoT_rf hK hi hg hc hk hv ys acc
      | true =>
        have h2 := hk x
        have h3 := hv x
        cases q2 : rk x with
        | ok k =>
          rw [q2] at h2
          have h2 : fk (E1 x) = .ok (ek k) := h2
          cases q3 : rv x with
          | ok v =>
            rw [q3] at h3
            have h3 : fv (E1 x) = .ok (e v) := h3
            dsimp only
            rw [h2]
            dsimp only
            rw [h3]
            dsimp only
            rw [hK]
            dsimp only
            obtain ⟨p1, p2⟩ := putT_N (xs := acc) (k := k) (e := e) hi v
            rw [p1, p2]
            exact dcGoT_rf hK hi hg hc hk hv ys (dputN acc k v)
          | ex _ _ => exact trivial
          | er => exact trivial
        | ex _ _ => exact trivial
        | er => exact trivial
    | ex _ _ => exact trivial
    | er => exact trivial
theorem rf_dcpT {rc : ι → Res Bool} {rk : ι → Res κ} {rv : ι → Res α} {ys : List ι} (hK : ∀ x, keyT (ek x) = some (kt x)) (hi : Inj kt) (hit : it ρ = .ok (ys.map ex)) (E1 : ι → Env) (hg : ∀ x, g (ex x) (wipeD ρ vs) = .ok (E1 x)) (hc : ∀ x, Rf (c (E1 x)) (rc x) (fun b => b)) (hk : ∀ x, Rf (fk (E1 x)) (rk x) ek) (hv : ∀ x, Rf (fv (E1 x)) (rv x) e) : Rf (fDcT vs it g c fk fv ρ) (dcR ys rc rk rv) (eDt kt e) := by
  unfold fDcT dcR
  rw [hit]
  show Rf (if szOk (ys.map ex).length = true then _ else _) _ _
  rw [List.length_map]
  split
  · have := dcGoT_rf hK hi hg hc hk hv ys []
    cases q : dcR.go rc rk rv ys [] with
    | ok w => rw [q] at this; have this : dcGoT g c fk fv (wipeD ρ vs) (ys.map ex) [] [] = .ok (w.map (fun p => kt p.1), w.map (fun p => e p.2)) := this; rw [this]; exact rfl
    | ex _ _ => rw [q] at this; exact this.elim
    | er => exact trivial
  · exact trivial
end
end Da
namespace Da
open PySem PySem.Spec L2
section
variable {κ α : Type} {kt : κ → List Key} {ek : κ → D} {e : α → D} {ρ : Env} {fk fv : Env → Res D}
theorem rf_disp1T {rk : Res κ} {rv : Res α} (hK : ∀ x, keyT (ek x) = some (kt x)) (hk : Rf (fk ρ) rk ek) (hv : Rf (fv ρ) rv e) : Rf (fDisp1T fk fv ρ) (rk.bind fun k => rv.bind fun v => .ok [(k, v)]) (eDt kt e) := by
  unfold fDisp1T
  cases rk with
  | er => exact trivial
  | ex c fs => rw [show fk ρ = _ from hk]; exact rfl
  | ok k =>
    rw [show fk ρ = .ok (ek k) from hk]
    cases rv with
    | er => exact trivial
    | ex c fs => rw [Res.bind_ok, show fv ρ = _ from hv]; exact rfl
    | ok v =>
      rw [Res.bind_ok, show fv ρ = .ok (e v) from hv, Res.bind_ok, hK]
      exact rfl
end
end Da
namespace Kx
open PySem PySem.Spec L2 Da
def F_law_digits : FS := (fSeq (fSet 2 (fOn gLstD fA0))
    (fSeq (fSet 3 (fOn (on1 dInt) (fA (fV 0) fA0)))
    (fSeq (fIfS (fB (f2 dGe (fV 3) (f2 dPow (fC (.int 10)) (fC (.int 18))))) (fSeq (fSet 3 (f2 dSub (fV 3) (f2 dPow (fC (.int 10)) (fC (.int 18)))))
    (fSeq (fFor (fL (fV 1)) (gN 6) (fFgt [6] (fSeq (fApp 2 (f2 dMod (fOn (on1 dInt) (fA (fV 3) fA0)) (fV 6)))
    (fSet 3 (f2 dDiv (fOn (on1 dInt) (fA (fV 3) fA0)) (fV 6))))))
    (fRet (fV 2)))) fNext)
    (fSeq (fSet 4 (f2 dMod (fOn (on1 dInt) (fA (fV 3) fA0)) (fC (.int 2147483629))))
    (fSeq (fFor (fR1 (fA (fOn (on1 dLen) (fA (fV 1) fA0)) fA0)) (gN 5) (fFgt [5, 7] (fSeq (fSet 4 (f2 dMod (fOn (on1 dInt) (fA (f2 dAdd (f2 dAdd (f2 dMul (fV 4) (fC (.int 48271))) (f2 dMul (fC (.int 974711)) (fV 5))) (fC (.int 12345))) fA0)) (fC (.int 2147483647))))
    (fSeq (fSet 7 (f2 dMod (fOn (on1 dInt) (fA (f2 dMul (fV 4) (f2 dAdd (f2 dDiv (fV 4) (fC (.int 65537))) (fC (.int 3)))) fA0)) (fC (.int 2147483629))))
    (fApp 2 (f2 dMod (f2 dDiv (fV 7) (fC (.int 19))) (f2 dIx (fV 1) (fV 5))))))))
    (fRet (fV 2)))))))
def m_law_digits : List D → Res D := runF 8 .ow F_law_digits
def F_law_cell : FS := (fSeq (fIfS (fB (f2 dLt (fV 1) (fOn (on1 dLen) (fA (fV 0) fA0)))) (fRet (f2 dIx (fV 0) (fV 1))) fNext)
    (fSeq (fSet 2 (fC (.int 17)))
    (fSeq (fFor (fL (fV 0)) (gN 3) (fFgt [3] (fSet 2 (f2 dMod (fOn (on1 dInt) (fA (f2 dAdd (f2 dMul (fV 2) (fC (.int 31))) (f2 dMod (fOn (on1 dInt) (fA (fV 3) fA0)) (fC (.int 1000003)))) fA0)) (fC (.int 1000003))))))
    (fRet (f2 dMod (fOn (on1 dInt) (fA (f2 dMul (f2 dMul (f2 dAdd (fV 2) (fC (.int 7))) (f2 dAdd (fV 1) (fC (.int 3)))) (fC (.int 69621))) fA0)) (fC (.int 2147483647)))))))
def m_law_cell : List D → Res D := runF 4 .sh F_law_cell
def F_law_whole : FS := (fRet (fBv (fAnd (fB (f1 (dIsi "int") (fV 0))) (fB (fBv (fNot (fB (f1 (dIsi "bool") (fV 0)))))))))
def m_law_whole : List D → Res D := runF 1 .sh F_law_whole
def F_law_same (rec : List D → Res D) : FS := (fSeq (fIfS (fOr (fTr (f1 (dIsi "tuple") (fV 1))) (fTr (f1 (dIsi "list") (fV 1)))) (fSeq (fIfS (fOr (fNot (fTr (f1 (dIsi "tuple") (fV 0)))) (fB (f2 dNe (fOn (on1 dLen) (fA (fV 0) fA0)) (fOn (on1 dLen) (fA (fV 1) fA0))))) (fRet (fC (.bl false))) fNext)
    (fSeq (fFor (fR1 (fA (fOn (on1 dLen) (fA (fV 1) fA0)) fA0)) (gN 2) (fFgt [2] (fIfS (fNot (fTr (fOn (chk 2 rec) (fA (f2 dIx (fV 0) (fV 2)) (fA (f2 dIx (fV 1) (fV 2)) fA0))))) (fRet (fC (.bl false))) fNext)))
    (fRet (fC (.bl true))))) fNext)
    (fSeq (fIfS (fB (f1 dIsN (fV 1))) (fRet (f1 dIsN (fV 0))) fNext)
    (fSeq (fIfS (fB (f1 (dIsB true) (fV 1))) (fRet (f1 (dIsB true) (fV 0))) fNext)
    (fSeq (fIfS (fB (f1 (dIsB false) (fV 1))) (fRet (f1 (dIsB false) (fV 0))) fNext)
    (fSeq (fIfS (fTr (f1 (dIsi "str") (fV 1))) (fRet (fBv (fAnd (fB (f1 (dIsi "str") (fV 0))) (fB (f2 dEq (fV 0) (fV 1)))))) fNext)
    (fRet (fBv (fAnd (fB (fOn (chk 1 m_law_whole) (fA (fV 0) fA0))) (fB (f2 dEq (fV 0) (fV 1)))))))))))
def r_law_same : Nat → List D → Res D
  | 0 => fun _ => .er
  | n + 1 => runF 3 .sh (F_law_same (r_law_same n))
def m_law_same : List D → Res D := r_law_same 6
def N_law_cell_fi_i (a0 : (List Int)) (a1 : Int) : Res Int :=
  (if (decide (a1 < (a0.length : Int))) = true then (ixR a0 a1) else
  ((forR (σ := Int) (fun x1 x2 => (((((mulR x1 31).bind fun x3 => (Res.ok (x3 + (x2 % 1000003)))).bind fun x4 => (Res.ok x4)).bind fun x5 => (Res.ok (x5 % 1000003))).bind fun x6 =>
  Res.ok x6)) a0 17).bind fun x7 =>
  ((((mulR (x7 + 7) (a1 + 3)).bind fun x8 => (mulR x8 69621)).bind fun x9 => (Res.ok x9)).bind fun x10 => (Res.ok (x10 % 2147483647)))))
theorem n_law_cell_fi_i (a0 : (List Int)) (a1 : Int) : Rf (m_law_cell [(eF D.int) a0, D.int a1]) (N_law_cell_fi_i a0 a1) D.int :=
  n_runF ((t_if (evB (ev2 rfl (evOn (evA rfl rfl) op_lenF) rfl)) (t_retF (q_f2 (b_p rfl (b_p rfl op_ixF))))
  (t_nextS (t_seqp [some ((eF D.int) a0), some (D.int a1), some (D.int 17), none] (set_p rfl rfl) (t_seq fin_F (fun x7 : Int => [some ((eF D.int) a0), some (D.int a1), some (D.int x7), none]) (s_forp (ex := D.int) (s0 := 17) (it_F (e := D.int) (xs := a0) rfl) (fun x1 : Int => [some ((eF D.int) a0), some (D.int a1), some (D.int x1), none]) (fun (x1 : Int) (x2 : Int) => [some ((eF D.int) a0), some (D.int a1), some (D.int x1), some (D.int x2)]) rfl (fun _ _ => rfl) fun x1 x2 =>
  (t_seq fin_L (fun x6 : Int => [some ((eF D.int) a0), some (D.int a1), some (D.int x6), some (D.int x2)]) (s_set (e := D.int) _ (q_f2 (b_i (q_on (a_i (q_f2 (b_i (q_f2 (b_p rfl (b_p rfl op_mul))) fun x3 => (b_p (ev2 rfl rfl (op_modp (by decide))) (rf_ok rfl)))) fun x4 => (a_0 (rf_ok rfl)))) fun x5 => (b_p rfl (rf_ok (op_modp (by decide)))))) fun _ => rfl) fun x6 =>
  (t_next rfl))) fun x7 =>
  (t_end (t_retF (q_f2 (b_i (q_on (a_i (q_f2 (b_i (q_f2 (b_p rfl (b_p rfl op_mul))) fun x8 => (b_p rfl op_mul))) fun x9 => (a_0 (rf_ok rfl)))) fun x10 => (b_p rfl (rf_ok (op_modp (by decide)))))))))))))
def N_law_digits_i_li (a0 : Int) (a1 : (List Int)) : Res (List Int) :=
  (((powR 10 18).bind fun x1 => (Res.ok (decide (x1 ≤ a0)))).bind fun x26 => if x26 = true then (((powR 10 18).bind fun x2 => (Res.ok (a0 - x2))).bind fun x3 =>
  ((forR (σ := ((List Int) × Int)) (fun x4 x5 => (((modR x4.2 x5).bind fun x6 => appR x4.1 x6).bind fun x7 =>
  ((divR x4.2 x5).bind fun x8 =>
  Res.ok (x7, x8)))) a1 ([], x3)).bind fun x9 =>
  (Res.ok x9.1))) else
  (((rngR (a1.length : Int)).bind fun x24 => (forR (σ := ((List Int) × Int)) (fun x10 x11 => ((((((mulR x10.2 48271).bind fun x12 => ((mulR 974711 x11).bind fun x13 => (Res.ok (x12 + x13)))).bind fun x14 => (Res.ok (x14 + 12345))).bind fun x15 => (Res.ok x15)).bind fun x16 => (Res.ok (x16 % 2147483647))).bind fun x17 =>
  ((((mulR x17 ((x17 / 65537) + 3)).bind fun x18 => (Res.ok x18)).bind fun x19 => (Res.ok (x19 % 2147483629))).bind fun x20 =>
  ((((ixR a1 x11).bind fun x21 => (modR (x20 / 19) x21)).bind fun x22 => appR x10.1 x22).bind fun x23 =>
  Res.ok (x23, x17))))) x24 ([], (a0 % 2147483629)))).bind fun x25 =>
  (Res.ok x25.1)))
theorem n_law_digits_i_li (a0 : Int) (a1 : (List Int)) : Rf (m_law_digits [D.int a0, (eL D.int) a1]) (N_law_digits_i_li a0 a1) (eL D.int) :=
  n_runF ((t_seqp [some (D.int a0), some ((eL D.int) a1), some ((eL D.int) []), none, none, none, none, none] (set_p rfl rfl) (t_seqp [some (D.int a0), some ((eL D.int) a1), some ((eL D.int) []), some (D.int a0), none, none, none, none] (set_p rfl rfl) (t_ifI fin_F (q_B (b_iB (q_f2 (b_p rfl (b_i (q_f2 (b_p rfl (b_p rfl op_pow))) fun x1 => (rf_ok rfl)))))) (t_assoc (t_seq fin_F (fun x3 : Int => [some (D.int a0), some ((eL D.int) a1), some ((eL D.int) []), some (D.int x3), none, none, none, none]) (s_set (e := D.int) _ (q_f2 (b_p rfl (b_i (q_f2 (b_p rfl (b_p rfl op_pow))) fun x2 => (rf_ok rfl)))) fun _ => rfl) fun x3 =>
  (t_assoc (t_seq fin_F (fun x9 : ((List Int) × Int) => [some (D.int a0), some ((eL D.int) a1), some ((eL D.int) x9.1), some (D.int x9.2), none, none, none, none]) (s_forp (ex := D.int) (s0 := ([], x3)) (it_L (e := D.int) (xs := a1) rfl) (fun x4 : ((List Int) × Int) => [some (D.int a0), some ((eL D.int) a1), some ((eL D.int) x4.1), some (D.int x4.2), none, none, none, none]) (fun (x4 : ((List Int) × Int)) (x5 : Int) => [some (D.int a0), some ((eL D.int) a1), some ((eL D.int) x4.1), some (D.int x4.2), none, none, some (D.int x5), none]) rfl (fun _ _ => rfl) fun x4 x5 =>
  (t_assoc (t_seq fin_L (fun x7 : (List Int) => [some (D.int a0), some ((eL D.int) a1), some ((eL D.int) x7), some (D.int x4.2), none, none, some (D.int x5), none]) (s_appI (e := D.int) (xs := x4.1) (fun ys : (List Int) => [some (D.int a0), some ((eL D.int) a1), some ((eL D.int) ys), some (D.int x4.2), none, none, some (D.int x5), none]) rfl (q_f2 (b_p rfl (b_p rfl op_mod))) fun _ => rfl) fun x7 =>
  (t_seq fin_L (fun x8 : Int => [some (D.int a0), some ((eL D.int) a1), some ((eL D.int) x7), some (D.int x8), none, none, some (D.int x5), none]) (s_set (e := D.int) _ (q_f2 (b_p rfl (b_p rfl op_div))) fun _ => rfl) fun x8 =>
  (t_next rfl))))) fun x9 =>
  (t_retF (rf_ok (e := (eL D.int)) rfl))))))
  (t_nextS (t_seqp [some (D.int a0), some ((eL D.int) a1), some ((eL D.int) []), some (D.int a0), some (D.int (a0 % 2147483629)), none, none, none] (set_p (ev2 rfl rfl (op_modp (by decide))) rfl) (t_seq fin_F (fun x25 : ((List Int) × Int) => [some (D.int a0), some ((eL D.int) a1), some ((eL D.int) x25.1), some (D.int a0), some (D.int x25.2), none, none, none]) (s_for (ex := D.int) (s0 := ([], (a0 % 2147483629))) (q_R1 (a_p (evOn (evA rfl rfl) op_lenL) (a_0 k_R1))) (fun x10 : ((List Int) × Int) => [some (D.int a0), some ((eL D.int) a1), some ((eL D.int) x10.1), some (D.int a0), some (D.int x10.2), none, none, none]) (fun (x10 : ((List Int) × Int)) (x11 : Int) => [some (D.int a0), some ((eL D.int) a1), some ((eL D.int) x10.1), some (D.int a0), some (D.int x10.2), some (D.int x11), none, none]) rfl (fun _ _ => rfl) fun x10 x11 =>
  (t_assoc (t_seq fin_L (fun x17 : Int => [some (D.int a0), some ((eL D.int) a1), some ((eL D.int) x10.1), some (D.int a0), some (D.int x17), some (D.int x11), none, none]) (s_set (e := D.int) _ (q_f2 (b_i (q_on (a_i (q_f2 (b_i (q_f2 (b_i (q_f2 (b_p rfl (b_p rfl op_mul))) fun x12 => (b_i (q_f2 (b_p rfl (b_p rfl op_mul))) fun x13 => (rf_ok rfl)))) fun x14 => (b_p rfl (rf_ok rfl)))) fun x15 => (a_0 (rf_ok rfl)))) fun x16 => (b_p rfl (rf_ok (op_modp (by decide)))))) fun _ => rfl) fun x17 =>
  (t_assoc (t_seq fin_L (fun x20 : Int => [some (D.int a0), some ((eL D.int) a1), some ((eL D.int) x10.1), some (D.int a0), some (D.int x17), some (D.int x11), none, some (D.int x20)]) (s_set (e := D.int) _ (q_f2 (b_i (q_on (a_i (q_f2 (b_p rfl (b_p (ev2 (ev2 rfl rfl (op_divp (by decide) (by decide))) rfl rfl) op_mul))) fun x18 => (a_0 (rf_ok rfl)))) fun x19 => (b_p rfl (rf_ok (op_modp (by decide)))))) fun _ => rfl) fun x20 =>
  (t_seq fin_L (fun x23 : (List Int) => [some (D.int a0), some ((eL D.int) a1), some ((eL D.int) x23), some (D.int a0), some (D.int x17), some (D.int x11), none, some (D.int x20)]) (s_appI (e := D.int) (xs := x10.1) (fun ys : (List Int) => [some (D.int a0), some ((eL D.int) a1), some ((eL D.int) ys), some (D.int a0), some (D.int x17), some (D.int x11), none, some (D.int x20)]) rfl (q_f2 (b_p (ev2 rfl rfl (op_divp (by decide) (by decide))) (b_i (q_f2 (b_p rfl (b_p rfl op_ixL))) fun x21 => op_mod))) fun _ => rfl) fun x23 =>
  (t_next rfl))))))) fun x25 =>
  (t_end (t_retF (rf_ok (e := (eL D.int)) rfl))))))))))
def N_law_whole_i (a0 : Int) : Res Bool :=
  (Res.ok true)
theorem n_law_whole_i (a0 : Int) : Rf (m_law_whole [D.int a0]) (N_law_whole_i a0) D.bl :=
  n_runF ((t_end (t_retF (rf_ok (e := D.bl) (evBv (evAndT (evB (ev1 rfl (isi_of isTy_int_int))) (evB (evBv (evNot (evB (ev1 rfl (isi_of isTy_bool_int))))))))))))
def N_law_same_i_i (a0 : Int) (a1 : Int) : Res Bool :=
  (Res.ok (decide (a0 = a1)))
theorem nr_law_same_i_i (n : Nat) (a0 : Int) (a1 : Int) : Rf (r_law_same (n + 1) [D.int a0, D.int a1]) (N_law_same_i_i a0 a1) D.bl :=
  n_runF ((t_ifF (evOrF (evTr (ev1 rfl (isi_of isTy_tuple_int)) rfl) (evTr (ev1 rfl (isi_of isTy_list_int)) rfl)) (t_nextS (t_ifF rfl (t_nextS (t_ifF rfl (t_nextS (t_ifF rfl (t_nextS (t_ifF (evTr (ev1 rfl (isi_of isTy_str_int)) rfl) (t_nextS (t_end (t_retF (rf_ok (e := D.bl) (evBv (evAndT (evB (evOn (evA rfl rfl) (ev_chk (n_law_whole_i a0) rfl))) (evB (ev2 rfl rfl (op_eq (e := D.int) (x := a0) (x' := a1))))))))))))))))))))
end Kx
namespace Kx
open PySem PySem.Spec L2 Da
def F_law_day : FS := (fSeq (fSet 2 (fLc [4] (fR1 (fA (fV 0) fA0)) (gN 4) fYes (fV 4)))
    (fSeq (fSet 3 (fOn gLstD fA0))
    (fSeq (fFor (fR1 (fA (fV 0) fA0)) (gN 4) (fFgt [4] (fAppX 3 (fPop 2 (f2 dMod (fOn (on1 dInt) (fA (f2 dIx (fV 1) (fV 4)) fA0)) (fSc (fOn (on1 dLen) (fA (fV 2) fA0))))))))
    (fRet (fOn (on1 dTuple) (fA (fV 3) fA0))))))
def m_law_day : List D → Res D := runF 5 .sh F_law_day
def N_law_day_i_li (a0 : Int) (a1 : (List Int)) : Res (List Int) :=
  (((rngR a0).bind fun x2 => lcR x2 (fun x1 => Res.ok true) (fun x1 => (Res.ok x1))).bind fun x3 =>
  (((rngR a0).bind fun x10 => (forR (σ := ((List Int) × (List Int))) (fun x4 x5 => (((nx ((nx (((ixR a1 x5).bind fun x6 => (Res.ok x6)).bind fun x7 => (modR x7 (x4.1.length : Int)))).bind fun x8 => popR x4.1 x8)).bind fun v => (appR x4.2 v.1).bind fun ys => Res.ok (ys, v.2)).bind fun x9 =>
  Res.ok (x9.2, x9.1))) x10 (x3, []))).bind fun x11 =>
  (Res.ok x11.2)))
theorem n_law_day_i_li (a0 : Int) (a1 : (List Int)) : Rf (m_law_day [D.int a0, (eL D.int) a1]) (N_law_day_i_li a0 a1) (eT D.int) :=
  n_runF ((t_seq fin_F (fun x3 : (List Int) => [some (D.int a0), some ((eL D.int) a1), some ((eL D.int) x3), none, none]) (s_set (e := (eL D.int)) _ (rf_lc (q_R1 (a_p rfl (a_0 k_R1))) (fun x1 : Int => [some (D.int a0), some ((eL D.int) a1), none, none, some (D.int x1)]) (fun _ => rfl) (fun x1 => (rf_ok (v := true) rfl)) (fun x1 => (rf_ok (e := D.int) rfl))) fun _ => rfl) fun x3 =>
  (t_seqp [some (D.int a0), some ((eL D.int) a1), some ((eL D.int) x3), some ((eL D.int) []), none] (set_p rfl rfl) (t_seq fin_F (fun x11 : ((List Int) × (List Int)) => [some (D.int a0), some ((eL D.int) a1), some ((eL D.int) x11.1), some ((eL D.int) x11.2), none]) (s_for (ex := D.int) (s0 := (x3, [])) (q_R1 (a_p rfl (a_0 k_R1))) (fun x4 : ((List Int) × (List Int)) => [some (D.int a0), some ((eL D.int) a1), some ((eL D.int) x4.1), some ((eL D.int) x4.2), none]) (fun (x4 : ((List Int) × (List Int))) (x5 : Int) => [some (D.int a0), some ((eL D.int) a1), some ((eL D.int) x4.1), some ((eL D.int) x4.2), some (D.int x5)]) rfl (fun _ _ => rfl) fun x4 x5 =>
  (t_seq fin_L (fun x9 : ((List Int) × (List Int)) => [some (D.int a0), some ((eL D.int) a1), some ((eL D.int) x9.2), some ((eL D.int) x9.1), some (D.int x5)]) (s_appX (e := D.int) (xs := x4.2) (fun v : ((List Int) × (List Int)) => [some (D.int a0), some ((eL D.int) a1), some ((eL D.int) v.2), some ((eL D.int) v.1), some (D.int x5)]) rfl (x_popI (e := D.int) (xs := x4.1) (fun ys : (List Int) => [some (D.int a0), some ((eL D.int) a1), some ((eL D.int) ys), some ((eL D.int) x4.2), some (D.int x5)]) rfl (q_f2 (b_i (q_on (a_i (q_f2 (b_p rfl (b_p rfl op_ixL))) fun x6 => (a_0 (rf_ok rfl)))) fun x7 => (b_p (evSc (evOn (evA rfl rfl) op_lenL) rfl) op_mod))) fun _ => rfl) (fun _ => rfl) fun _ _ => rfl) fun x9 =>
  (t_next rfl))) fun x11 =>
  (t_end (t_retF (rf_ok (e := (eT D.int)) rfl)))))))
end Kx
namespace Kx
open PySem PySem.Spec L2 Da
def F_is_number : FS := (fRet (fBv (fAnd (fB (f1 (dIsi "int") (fV 0))) (fB (fBv (fNot (fB (f1 (dIsi "bool") (fV 0)))))))))
def m_is_number : List D → Res D := runF 1 .sh F_is_number
def F_frozen (rec : List D → Res D) : FS := (fSeq (fIfS (fTr (f1 (dIsi2 "list" "tuple") (fV 0))) (fRet (fOn (on1 dTuple) (fA (fLc [1] (fL (fV 0)) (gN 1) fYes (fOn (chk 1 rec) (fA (fV 1) fA0))) fA0))) fNext)
    (fRet (fV 0)))
def r_frozen : Nat → List D → Res D
  | 0 => fun _ => .er
  | n + 1 => runF 2 .sh (F_frozen (r_frozen n))
def m_frozen : List D → Res D := r_frozen 6
def N_frozen_i (a0 : Int) : Res Int :=
  (Res.ok a0)
theorem nr_frozen_i (n : Nat) (a0 : Int) : Rf (r_frozen (n + 1) [D.int a0]) (N_frozen_i a0) D.int :=
  n_runF ((t_ifF (evTr (ev1 rfl (isi2_b isTy_list_int isTy_tuple_int)) rfl) (t_nextS (t_end (t_retF (rf_ok (e := D.int) rfl))))))
def N_frozen_piiq (a0 : (Int × Int)) : Res (Int × Int) :=
  (((nx (N_frozen_i a0.1)).bind fun x1 => (nx (N_frozen_i a0.2)).bind fun x2 => Res.ok (x1, x2)).bind fun x3 => (Res.ok x3))
theorem nr_frozen_piiq (n : Nat) (a0 : (Int × Int)) : Rf (r_frozen (n + 2) [(eP2 D.int D.int) a0]) (N_frozen_piiq a0) (eP2 D.int D.int) :=
  n_runF ((t_ifT (evTr (ev1 rfl (isi2_b isTy_list_tup isTy_tuple_tup)) rfl) (t_retF (q_on (a_i (rf_lcN2 (it_row2 rfl) rfl rfl (q_on (a_p rfl (a_0 (rf_chk (nr_frozen_i (n + 0) a0.1) rfl)))) (q_on (a_p rfl (a_0 (rf_chk (nr_frozen_i (n + 0) a0.2) rfl))))) fun x3 => (a_0 (rf_ok rfl)))))))
def N_frozen_lpiiq (a0 : (List (Int × Int))) : Res (List (Int × Int)) :=
  ((lcR a0 (fun x1 => Res.ok true) (fun x1 => (N_frozen_piiq x1))).bind fun x2 => (Res.ok x2))
theorem nr_frozen_lpiiq (n : Nat) (a0 : (List (Int × Int))) : Rf (r_frozen (n + 3) [(eL (eP2 D.int D.int)) a0]) (N_frozen_lpiiq a0) (eT (eP2 D.int D.int)) :=
  n_runF ((t_ifT (evTr (ev1 rfl (isi2_a isTy_list_lst)) rfl) (t_retF (q_on (a_i (rf_lcp (it_L (e := (eP2 D.int D.int)) (xs := a0) rfl) (fun x1 : (Int × Int) => [some ((eL (eP2 D.int D.int)) a0), some ((eP2 D.int D.int) x1)]) (fun _ => rfl) (fun x1 => (rf_ok (v := true) rfl)) (fun x1 => (q_on (a_p rfl (a_0 (rf_chk (nr_frozen_piiq (n + 0) x1) rfl)))))) fun x2 => (a_0 (rf_ok rfl)))))))
theorem n_frozen_lpiiq (a0 : (List (Int × Int))) : Rf (m_frozen [(eL (eP2 D.int D.int)) a0]) (N_frozen_lpiiq a0) (eT (eP2 D.int D.int)) := nr_frozen_lpiiq 3 a0
end Kx
namespace Kx
open PySem PySem.Spec L2 Da
def F_is_link : FS := (fSeq (fIfS (fOr (fB (f2 dNe (fOn (on1 dLen) (fA (fV 1) fA0)) (fC (.int 2)))) (fB (f2 dEq (f2 dIx (fV 1) (fC (.int 0))) (f2 dIx (fV 1) (fC (.int 1)))))) (fRet (fC (.bl false))) fNext)
    (fRet (fOn (on1 dAll) (fA (fLc [2] (fL (fV 1)) (gN 2) fYes (fBv (fAnd (fB (fOn (chk 1 m_is_number) (fA (fV 2) fA0))) (fB (fChain dLe dLt (fC (.int 0)) (fV 2) (fV 0)))))) fA0))))
def m_is_link : List D → Res D := runF 3 .sh F_is_link
def F_checked_links : FS := (fSeq (fFor (fEnum (fA (fV 1) fA0)) (gT (gsC (gN 2) (gsC (gN 3) gs0))) (fFgt [2, 3] (fIfS (fNot (fTr (fOn (chk 2 m_is_link) (fA (fV 0) (fA (fV 3) fA0))))) (fRaise "BadLink" ["index"] (fA (fV 2) fA0)) fNext)))
    (fRet (fOn (on1 dTuple) (fA (fSortSc [4, 5] (fL (fV 1)) (gT (gsC (gN 4) (gsC (gN 5) gs0))) fYes (fOn gTupD (fA (fOn (on2 dMin2) (fA (fV 4) (fA (fV 5) fA0))) (fA (fOn (on2 dMax2) (fA (fV 4) (fA (fV 5) fA0))) fA0)))) fA0))))
def m_checked_links : List D → Res D := runF 6 .sh F_checked_links
def F_near_nodes : FS := (fSeq (fSet 2 (fLc [5] (fR1 (fA (fV 0) fA0)) (gN 5) fYes (fOn gLstD fA0)))
    (fSeq (fFor (fL (fV 1)) (gT (gsC (gN 3) (gsC (gN 4) gs0))) (fFgt [3, 4] (fSeq (fApp2 2 (fV 3) (fV 4))
    (fApp2 2 (fV 4) (fV 3)))))
    (fRet (fOn (on1 dTuple) (fA (fLc [6] (fL (fV 2)) (gN 6) fYes (fOn (on1 dTuple) (fA (fOn (on1 dSorted) (fA (fV 6) fA0)) fA0))) fA0)))))
def m_near_nodes : List D → Res D := runF 7 .sh F_near_nodes
def F_lanes_of : FS := (fRet (fOn (on1 dTuple) (fA (fLc2 [1, 2] (fR1 (fA (fOn (on1 dLen) (fA (fV 0) fA0)) fA0)) (gN 1) fYes [2] (fL (f2 dIx (fV 0) (fV 1))) (gN 2) fYes (fOn gTupD (fA (fV 1) (fA (fV 2) fA0)))) fA0)))
def m_lanes_of : List D → Res D := runF 3 .sh F_lanes_of
def F_reached : FS := (fSeq (fSet 3 (fLc [5] (fR1 (fA (fV 0) fA0)) (gN 5) fYes (fC (.bl false))))
    (fSeq (fSetIx 3 (fC (.bl true)) (fV 2))
    (fSeq (fSet 4 (fOn gLstD (fA (fV 2) fA0)))
    (fSeq (fWhile (fNx (fTr (fV 4))) (fFgt [5, 6, 7] (fSeq (fSetX 5 (fPop0 4))
    (fFor (fL (fV 1)) (gT (gsC (gN 6) (gsC (gN 7) gs0))) (fFgt [6, 7] (fSeq (fFgt [] (fIfS (fAnd (fB (f2 dEq (fV 6) (fV 5))) (fNot (fTr (f2 dIx (fV 3) (fV 7))))) (fSeq (fSetIx 3 (fC (.bl true)) (fV 7))
    (fApp 4 (fV 7))) fNext))
    (fFgt [] (fIfS (fAnd (fB (f2 dEq (fV 7) (fV 5))) (fNot (fTr (f2 dIx (fV 3) (fV 6))))) (fSeq (fSetIx 3 (fC (.bl true)) (fV 6))
    (fApp 4 (fV 6))) fNext))))))))
    (fRet (fOn (on1 dTuple) (fA (fLc [5] (fR1 (fA (fV 0) fA0)) (gN 5) (fTr (f2 dIx (fV 3) (fV 5))) (fV 5)) fA0)))))))
def m_reached : List D → Res D := runF 8 .sh F_reached
def F_Net_init : FS := (fSeq (fIfS (fNot (fB (fChain dLe dLe (fC (.int 1)) (fV 1) (fC (.int 24))))) (fRaise "BadSize" ["size"] (fA (fV 1) fA0)) fNext)
    (fSeq (fFld "Net" "size" 0 (fV 1))
    (fSeq (fFld "Net" "links" 0 (fOn (chk 2 m_checked_links) (fA (fV 1) (fA (fOn (chk 1 m_frozen) (fA (fV 2) fA0)) fA0))))
    (fSeq (fFld "Net" "near" 0 (fOn (chk 2 m_near_nodes) (fA (fV 1) (fA (f1 (dFld "Net" "links") (fV 0)) fA0))))
    (fSeq (fFld "Net" "lane_row" 0 (fOn (chk 1 m_lanes_of) (fA (f1 (dFld "Net" "near") (fV 0)) fA0)))
    (fSeq (fSet 3 (fOn (chk 3 m_reached) (fA (fV 1) (fA (f1 (dFld "Net" "links") (fV 0)) (fA (fC (.int 0)) fA0)))))
    (fFor (fR1 (fA (fV 1) fA0)) (gN 4) (fFgt [4] (fIfS (fB (f2 dNotIn (fV 4) (fV 3))) (fRaise "NotConnected" ["node"] (fA (fV 4) fA0)) fNext)))))))))
def m_Net_init : List D → Res D := runI 5 "Net" F_Net_init
def N_is_number_i (a0 : Int) : Res Bool :=
  (Res.ok true)
theorem n_is_number_i (a0 : Int) : Rf (m_is_number [D.int a0]) (N_is_number_i a0) D.bl :=
  n_runF ((t_end (t_retF (rf_ok (e := D.bl) (evBv (evAndT (evB (ev1 rfl (isi_of isTy_int_int))) (evB (evBv (evNot (evB (ev1 rfl (isi_of isTy_bool_int))))))))))))
def N_is_link_i_piiq (a0 : Int) (a1 : (Int × Int)) : Res Bool :=
  (if ((!decide (2 = 2)) || (decide (a1.1 = a1.2))) = true then (Res.ok false) else
  ((lcR [a1.1, a1.2] (fun x1 => Res.ok true) (fun x1 => (Res.ok ((decide (0 ≤ x1)) && (decide (x1 < a0)))))).bind fun x2 => (Res.ok (x2.all id))))
theorem n_is_link_i_piiq (a0 : Int) (a1 : (Int × Int)) : Rf (m_is_link [D.int a0, (eP2 D.int D.int) a1]) (N_is_link_i_piiq a0 a1) D.bl :=
  n_runF ((t_if (evOr (evB (ev2 rfl rfl (op_ne (e := D.int) (x := 2) (x' := 2)))) (evB (ev2 rfl rfl (op_eq (e := D.int) (x := a1.1) (x' := a1.2))))) (t_retF (rf_ok (e := D.bl) rfl))
  (t_nextS (t_end (t_retF (q_on (a_i (rf_lcp (it_T (e := D.int) (xs := [a1.1, a1.2]) rfl) (fun x1 : Int => [some (D.int a0), some ((eP2 D.int D.int) a1), some (D.int x1)]) (fun _ => rfl) (fun x1 => (rf_ok (v := true) rfl)) (fun x1 => (rf_ok (e := D.bl) (evBv (evAndT (evB (evOn (evA rfl rfl) (ev_chk (n_is_number_i x1) rfl))) (evB (evChain rfl rfl rfl rfl rfl))))))) fun x2 => (a_0 (rf_ok op_allL)))))))))
def N_checked_links_i_tpiiq (a0 : Int) (a1 : (List (Int × Int))) : Res (List (Int × Int)) :=
  ((forR (σ := Unit) (fun x1 x2 => (((N_is_link_i_piiq a0 x2.2).bind fun x3 => Res.ok (!x3)).bind fun x4 => if x4 = true then (Res.ex "BadLink" [("index", D.int x2.1)]) else
  Res.ok ())) (enumI 0 a1) ()).bind fun x5 =>
  (((lcR a1 (fun x6 => Res.ok true) (fun x6 => (Res.ok ((if x6.2 < x6.1 then x6.2 else x6.1), (if x6.2 > x6.1 then x6.2 else x6.1))))).bind sortPR).bind fun x7 => (Res.ok x7)))
theorem n_checked_links_i_tpiiq (a0 : Int) (a1 : (List (Int × Int))) : Rf (m_checked_links [D.int a0, (eT (eP2 D.int D.int)) a1]) (N_checked_links_i_tpiiq a0 a1) (eT (eP2 D.int D.int)) :=
  n_runF ((t_seq fin_F (fun x5 : Unit => [some (D.int a0), some ((eT (eP2 D.int D.int)) a1), none, none, none, none]) (s_forp (ex := (eP2 D.int (eP2 D.int D.int))) (s0 := ()) (it_enT (e := (eP2 D.int D.int)) (xs := a1) rfl) (fun x1 : Unit => [some (D.int a0), some ((eT (eP2 D.int D.int)) a1), none, none, none, none]) (fun (x1 : Unit) (x2 : (Int × (Int × Int))) => [some (D.int a0), some ((eT (eP2 D.int D.int)) a1), some (D.int x2.1), some ((eP2 D.int D.int) x2.2), none, none]) rfl (fun _ _ => rfl) fun x1 x2 =>
  (t_ifI fin_L (q_Not (b_i (q_Tr (b_iT (q_on (a_p rfl (a_p rfl (a_0 (rf_chk (n_is_link_i_piiq a0 x2.2) rfl))))))) fun _ => rf_ok rfl)) (t_raise fin_L (a_p rfl (a_0 (rf_ex rfl))))
  (t_nextS (t_next rfl)))) fun x5 =>
  (t_end (t_retF (q_on (a_i (rf_sortSc (rf_lcp (it_T (e := (eP2 D.int D.int)) (xs := a1) rfl) (fun x6 : (Int × Int) => [some (D.int a0), some ((eT (eP2 D.int D.int)) a1), none, none, some (D.int x6.1), some (D.int x6.2)]) (fun _ => rfl) (fun x6 => (rf_ok (v := true) rfl)) (fun x6 => (rf_ok (e := (eP2 D.int D.int)) rfl)))) fun x7 => (a_0 (rf_ok rfl))))))))
def N_near_nodes_i_tpiiq (a0 : Int) (a1 : (List (Int × Int))) : Res (List (List Int)) :=
  (((rngR a0).bind fun x2 => lcR x2 (fun x1 => Res.ok true) (fun x1 => (Res.ok []))).bind fun x3 =>
  ((forR (σ := (List (List Int))) (fun x4 x5 => ((app2R x4 x5.1 x5.2).bind fun x6 =>
  ((app2R x6 x5.2 x5.1).bind fun x7 =>
  Res.ok x7))) a1 x3).bind fun x8 =>
  ((lcR x8 (fun x9 => Res.ok true) (fun x9 => (Res.ok (x9.mergeSort leI)))).bind fun x10 => (Res.ok x10))))
theorem n_near_nodes_i_tpiiq (a0 : Int) (a1 : (List (Int × Int))) : Rf (m_near_nodes [D.int a0, (eT (eP2 D.int D.int)) a1]) (N_near_nodes_i_tpiiq a0 a1) (eT (eT D.int)) :=
  n_runF ((t_seq fin_F (fun x3 : (List (List Int)) => [some (D.int a0), some ((eT (eP2 D.int D.int)) a1), some ((eL (eL D.int)) x3), none, none, none, none]) (s_set (e := (eL (eL D.int))) _ (rf_lc (q_R1 (a_p rfl (a_0 k_R1))) (fun x1 : Int => [some (D.int a0), some ((eT (eP2 D.int D.int)) a1), none, none, none, some (D.int x1), none]) (fun _ => rfl) (fun x1 => (rf_ok (v := true) rfl)) (fun x1 => (rf_ok (e := (eL D.int)) rfl))) fun _ => rfl) fun x3 =>
  (t_seq fin_F (fun x8 : (List (List Int)) => [some (D.int a0), some ((eT (eP2 D.int D.int)) a1), some ((eL (eL D.int)) x8), none, none, none, none]) (s_forp (ex := (eP2 D.int D.int)) (s0 := x3) (it_T (e := (eP2 D.int D.int)) (xs := a1) rfl) (fun x4 : (List (List Int)) => [some (D.int a0), some ((eT (eP2 D.int D.int)) a1), some ((eL (eL D.int)) x4), none, none, none, none]) (fun (x4 : (List (List Int))) (x5 : (Int × Int)) => [some (D.int a0), some ((eT (eP2 D.int D.int)) a1), some ((eL (eL D.int)) x4), some (D.int x5.1), some (D.int x5.2), none, none]) rfl (fun _ _ => rfl) fun x4 x5 =>
  (t_assoc (t_seq fin_L (fun x6 : (List (List Int)) => [some (D.int a0), some ((eT (eP2 D.int D.int)) a1), some ((eL (eL D.int)) x6), some (D.int x5.1), some (D.int x5.2), none, none]) (s_app2 (e := D.int) (xs := x4) (d := x5.2) (fun ys : (List (List Int)) => [some (D.int a0), some ((eT (eP2 D.int D.int)) a1), some ((eL (eL D.int)) ys), some (D.int x5.1), some (D.int x5.2), none, none]) rfl rfl rfl fun _ => rfl) fun x6 =>
  (t_seq fin_L (fun x7 : (List (List Int)) => [some (D.int a0), some ((eT (eP2 D.int D.int)) a1), some ((eL (eL D.int)) x7), some (D.int x5.1), some (D.int x5.2), none, none]) (s_app2 (e := D.int) (xs := x6) (d := x5.1) (fun ys : (List (List Int)) => [some (D.int a0), some ((eT (eP2 D.int D.int)) a1), some ((eL (eL D.int)) ys), some (D.int x5.1), some (D.int x5.2), none, none]) rfl rfl rfl fun _ => rfl) fun x7 =>
  (t_next rfl))))) fun x8 =>
  (t_end (t_retF (q_on (a_i (rf_lcp (it_L (e := (eL D.int)) (xs := x8) rfl) (fun x9 : (List Int) => [some (D.int a0), some ((eT (eP2 D.int D.int)) a1), some ((eL (eL D.int)) x8), none, none, none, some ((eL D.int) x9)]) (fun _ => rfl) (fun x9 => (rf_ok (v := true) rfl)) (fun x9 => (rf_ok (e := (eT D.int)) (evOn (evA (evOn (evA rfl rfl) op_sortL) rfl) rfl)))) fun x10 => (a_0 (rf_ok rfl)))))))))
def N_lanes_of_tti (a0 : (List (List Int))) : Res (List (Int × Int)) :=
  (((rngR (a0.length : Int)).bind fun x3 => lc2R x3 (fun x1 => Res.ok true) (fun x1 => (ixR a0 x1)) (fun x1 x2 => Res.ok true) (fun x1 x2 => (Res.ok (x1, x2)))).bind fun x4 => (Res.ok x4))
theorem n_lanes_of_tti (a0 : (List (List Int))) : Rf (m_lanes_of [(eT (eT D.int)) a0]) (N_lanes_of_tti a0) (eT (eP2 D.int D.int)) :=
  n_runF ((t_end (t_retF (q_on (a_i (rf_lc2 (q_R1 (a_p (evOn (evA rfl rfl) op_lenT) (a_0 k_R1))) (fun x1 : Int => [some ((eT (eT D.int)) a0), some (D.int x1), none]) (fun (x1 : Int) (x2 : Int) => [some ((eT (eT D.int)) a0), some (D.int x1), some (D.int x2)]) (fun _ => rfl) (fun x1 => (rf_ok (v := true) rfl)) (fun x1 => (q_L (b_iL (q_f2 (b_p rfl (b_p rfl op_ixT))) fun _ => rfl))) (fun _ _ => rfl) (fun x1 x2 => (rf_ok (v := true) rfl)) (fun x1 x2 => (rf_ok (e := (eP2 D.int D.int)) rfl))) fun x4 => (a_0 (rf_ok rfl)))))))
def N_reached_i_tpiiq_i (a0 : Int) (a1 : (List (Int × Int))) (a2 : Int) : Res (List Int) :=
  (((rngR a0).bind fun x2 => lcR x2 (fun x1 => Res.ok true) (fun x1 => (Res.ok false))).bind fun x3 =>
  ((setR x3 a2 true).bind fun x4 =>
  (((whileC (σ := ((List Bool) × (List Int))) (β := Unit) (fun x5 => Res.ok (!x5.2.isEmpty)) (fun x5 => ((nx (pop0R x5.2)).bind fun x7 =>
  ((forR (σ := ((List Bool) × (List Int))) (fun x8 x9 => (((if (decide (x9.1 = x7.1)) = true then ((ixR x8.1 x9.2).bind fun x18 => Res.ok (!x18)) else Res.ok false).bind fun x21 => if x21 = true then ((setR x8.1 x9.2 true).bind fun x19 =>
  ((appR x8.2 x9.2).bind fun x20 =>
  Res.ok (x19, x20))) else
  Res.ok (x8.1, x8.2)).bind fun x22 =>
  (((if (decide (x9.2 = x7.1)) = true then ((ixR x22.1 x9.1).bind fun x31 => Res.ok (!x31)) else Res.ok false).bind fun x34 => if x34 = true then ((setR x22.1 x9.1 true).bind fun x32 =>
  ((appR x22.2 x9.1).bind fun x33 =>
  Res.ok (x32, x33))) else
  Res.ok (x22.1, x22.2)).bind fun x35 =>
  Res.ok (x35.1, x35.2)))) a1 (x5.1, x7.2)).bind fun x36 =>
  Res.ok (.go (x36.1, x36.2))))) FUEL (x4, [a2])).bind (ctlS (β := Unit))).bind fun x37 =>
  (((rngR a0).bind fun x39 => lcR x39 (fun x38 => (ixR x37.1 x38)) (fun x38 => (Res.ok x38))).bind fun x40 => (Res.ok x40)))))
theorem n_reached_i_tpiiq_i (a0 : Int) (a1 : (List (Int × Int))) (a2 : Int) : Rf (m_reached [D.int a0, (eT (eP2 D.int D.int)) a1, D.int a2]) (N_reached_i_tpiiq_i a0 a1 a2) (eT D.int) :=
  n_runF ((t_seq fin_F (fun x3 : (List Bool) => [some (D.int a0), some ((eT (eP2 D.int D.int)) a1), some (D.int a2), some ((eL D.bl) x3), none, none, none, none]) (s_set (e := (eL D.bl)) _ (rf_lc (q_R1 (a_p rfl (a_0 k_R1))) (fun x1 : Int => [some (D.int a0), some ((eT (eP2 D.int D.int)) a1), some (D.int a2), none, none, some (D.int x1), none, none]) (fun _ => rfl) (fun x1 => (rf_ok (v := true) rfl)) (fun x1 => (rf_ok (e := D.bl) rfl))) fun _ => rfl) fun x3 =>
  (t_seq fin_F (fun x4 : (List Bool) => [some (D.int a0), some ((eT (eP2 D.int D.int)) a1), some (D.int a2), some ((eL D.bl) x4), none, none, none, none]) (s_setIx (e := D.bl) (xs := x3) (d := true) (fun ys : (List Bool) => [some (D.int a0), some ((eT (eP2 D.int D.int)) a1), some (D.int a2), some ((eL D.bl) ys), none, none, none, none]) rfl rfl rfl fun _ => rfl) fun x4 =>
  (t_seqp [some (D.int a0), some ((eT (eP2 D.int D.int)) a1), some (D.int a2), some ((eL D.bl) x4), some ((eL D.int) [a2]), none, none, none] (set_p rfl rfl) (t_seq fin_F (fun x37 : ((List Bool) × (List Int)) => [some (D.int a0), some ((eT (eP2 D.int D.int)) a1), some (D.int a2), some ((eL D.bl) x37.1), some ((eL D.int) x37.2), none, none, none]) (s_while (s0 := (x4, [a2])) (fun x5 : ((List Bool) × (List Int)) => [some (D.int a0), some ((eT (eP2 D.int D.int)) a1), some (D.int a2), some ((eL D.bl) x5.1), some ((eL D.int) x5.2), none, none, none]) rfl (fun x5 => (rf_ok (e := fun b => b) (evNx (evTr rfl op_trL)))) fun x5 =>
  (t_assoc (t_seq fin_L (fun x7 : (Int × (List Int)) => [some (D.int a0), some ((eT (eP2 D.int D.int)) a1), some (D.int a2), some ((eL D.bl) x5.1), some ((eL D.int) x7.2), some (D.int x7.1), none, none]) (s_setX (fun v : (Int × (List Int)) => [some (D.int a0), some ((eT (eP2 D.int D.int)) a1), some (D.int a2), some ((eL D.bl) x5.1), some ((eL D.int) v.2), some (D.int v.1), none, none]) (x_pop0 (e := D.int) (xs := x5.2) (fun ys : (List Int) => [some (D.int a0), some ((eT (eP2 D.int D.int)) a1), some (D.int a2), some ((eL D.bl) x5.1), some ((eL D.int) ys), none, none, none]) rfl fun _ => rfl) fun _ => rfl) fun x7 =>
  (t_seq fin_L (fun x36 : ((List Bool) × (List Int)) => [some (D.int a0), some ((eT (eP2 D.int D.int)) a1), some (D.int a2), some ((eL D.bl) x36.1), some ((eL D.int) x36.2), some (D.int x7.1), none, none]) (s_forp (ex := (eP2 D.int D.int)) (s0 := (x5.1, x7.2)) (it_T (e := (eP2 D.int D.int)) (xs := a1) rfl) (fun x8 : ((List Bool) × (List Int)) => [some (D.int a0), some ((eT (eP2 D.int D.int)) a1), some (D.int a2), some ((eL D.bl) x8.1), some ((eL D.int) x8.2), some (D.int x7.1), none, none]) (fun (x8 : ((List Bool) × (List Int))) (x9 : (Int × Int)) => [some (D.int a0), some ((eT (eP2 D.int D.int)) a1), some (D.int a2), some ((eL D.bl) x8.1), some ((eL D.int) x8.2), some (D.int x7.1), some (D.int x9.1), some (D.int x9.2)]) rfl (fun _ _ => rfl) fun x8 x9 =>
  (t_assoc (t_seq fin_L (fun x22 : ((List Bool) × (List Int)) => [some (D.int a0), some ((eT (eP2 D.int D.int)) a1), some (D.int a2), some ((eL D.bl) x22.1), some ((eL D.int) x22.2), some (D.int x7.1), some (D.int x9.1), some (D.int x9.2)]) (s_if (o' := (fun s : ((List Bool) × (List Int)) => Fl.nx [some (D.int a0), some ((eT (eP2 D.int D.int)) a1), some (D.int a2), some ((eL D.bl) s.1), some ((eL D.int) s.2), some (D.int x7.1), some (D.int x9.1), some (D.int x9.2)])) (t_ifI fin_S (rAnd (evB (ev2 rfl rfl (op_eq (e := D.int) (x := x9.1) (x' := x7.1)))) (q_Not (b_i (q_Tr (b_iT (q_f2 (b_p rfl (b_p rfl op_ixL))))) fun _ => rf_ok rfl))) (t_assoc (t_seq fin_S (fun x19 : (List Bool) => [some (D.int a0), some ((eT (eP2 D.int D.int)) a1), some (D.int a2), some ((eL D.bl) x19), some ((eL D.int) x8.2), some (D.int x7.1), some (D.int x9.1), some (D.int x9.2)]) (s_setIx (e := D.bl) (xs := x8.1) (d := true) (fun ys : (List Bool) => [some (D.int a0), some ((eT (eP2 D.int D.int)) a1), some (D.int a2), some ((eL D.bl) ys), some ((eL D.int) x8.2), some (D.int x7.1), some (D.int x9.1), some (D.int x9.2)]) rfl rfl rfl fun _ => rfl) fun x19 =>
  (t_seq fin_S (fun x20 : (List Int) => [some (D.int a0), some ((eT (eP2 D.int D.int)) a1), some (D.int a2), some ((eL D.bl) x19), some ((eL D.int) x20), some (D.int x7.1), some (D.int x9.1), some (D.int x9.2)]) (s_app (e := D.int) (xs := x8.2) (d := x9.2) (fun ys : (List Int) => [some (D.int a0), some ((eT (eP2 D.int D.int)) a1), some (D.int a2), some ((eL D.bl) x19), some ((eL D.int) ys), some (D.int x7.1), some (D.int x9.1), some (D.int x9.2)]) rfl rfl fun _ => rfl) fun x20 =>
  (t_next rfl))))
  (t_nextS (t_next rfl)))) fun x22 =>
  (t_seq fin_L (fun x35 : ((List Bool) × (List Int)) => [some (D.int a0), some ((eT (eP2 D.int D.int)) a1), some (D.int a2), some ((eL D.bl) x35.1), some ((eL D.int) x35.2), some (D.int x7.1), some (D.int x9.1), some (D.int x9.2)]) (s_if (o' := (fun s : ((List Bool) × (List Int)) => Fl.nx [some (D.int a0), some ((eT (eP2 D.int D.int)) a1), some (D.int a2), some ((eL D.bl) s.1), some ((eL D.int) s.2), some (D.int x7.1), some (D.int x9.1), some (D.int x9.2)])) (t_ifI fin_S (rAnd (evB (ev2 rfl rfl (op_eq (e := D.int) (x := x9.2) (x' := x7.1)))) (q_Not (b_i (q_Tr (b_iT (q_f2 (b_p rfl (b_p rfl op_ixL))))) fun _ => rf_ok rfl))) (t_assoc (t_seq fin_S (fun x32 : (List Bool) => [some (D.int a0), some ((eT (eP2 D.int D.int)) a1), some (D.int a2), some ((eL D.bl) x32), some ((eL D.int) x22.2), some (D.int x7.1), some (D.int x9.1), some (D.int x9.2)]) (s_setIx (e := D.bl) (xs := x22.1) (d := true) (fun ys : (List Bool) => [some (D.int a0), some ((eT (eP2 D.int D.int)) a1), some (D.int a2), some ((eL D.bl) ys), some ((eL D.int) x22.2), some (D.int x7.1), some (D.int x9.1), some (D.int x9.2)]) rfl rfl rfl fun _ => rfl) fun x32 =>
  (t_seq fin_S (fun x33 : (List Int) => [some (D.int a0), some ((eT (eP2 D.int D.int)) a1), some (D.int a2), some ((eL D.bl) x32), some ((eL D.int) x33), some (D.int x7.1), some (D.int x9.1), some (D.int x9.2)]) (s_app (e := D.int) (xs := x22.2) (d := x9.1) (fun ys : (List Int) => [some (D.int a0), some ((eT (eP2 D.int D.int)) a1), some (D.int a2), some ((eL D.bl) x32), some ((eL D.int) ys), some (D.int x7.1), some (D.int x9.1), some (D.int x9.2)]) rfl rfl fun _ => rfl) fun x33 =>
  (t_next rfl))))
  (t_nextS (t_next rfl)))) fun x35 =>
  (t_next rfl))))) fun x36 =>
  (t_next rfl))))) fun x37 =>
  (t_end (t_retF (q_on (a_i (rf_lc (q_R1 (a_p rfl (a_0 k_R1))) (fun x38 : Int => [some (D.int a0), some ((eT (eP2 D.int D.int)) a1), some (D.int a2), some ((eL D.bl) x37.1), some ((eL D.int) x37.2), some (D.int x38), none, none]) (fun _ => rfl) (fun x38 => (q_Tr (b_iT (q_f2 (b_p rfl (b_p rfl op_ixL)))))) (fun x38 => (rf_ok (e := D.int) rfl))) fun x40 => (a_0 (rf_ok rfl)))))))))))
def N_Net_init_i_lpiiq (a0 : Int) (a1 : (List (Int × Int))) : Res (Int × (List (Int × Int)) × (List (List Int)) × (List (Int × Int))) :=
  (if (!((decide (1 ≤ a0)) && (decide (a0 ≤ 24)))) = true then (Res.ex "BadSize" [("size", D.int a0)]) else
  ((Res.ok a0).bind fun x1 =>
  (((N_frozen_lpiiq a1).bind fun x2 => (N_checked_links_i_tpiiq a0 x2)).bind fun x3 =>
  ((N_near_nodes_i_tpiiq a0 ((x1, x3).2)).bind fun x4 =>
  ((N_lanes_of_tti (((x1, x3).1, (x1, x3).2, x4).2.2)).bind fun x5 =>
  ((N_reached_i_tpiiq_i a0 ((((x1, x3).1, (x1, x3).2, x4).1, ((x1, x3).1, (x1, x3).2, x4).2.1, ((x1, x3).1, (x1, x3).2, x4).2.2, x5).2.1) 0).bind fun x6 =>
  (((rngR a0).bind fun x9 => (forR (σ := Unit) (fun x7 x8 => (if (!decide (x8 ∈ x6)) = true then (Res.ex "NotConnected" [("node", D.int x8)]) else
  Res.ok ())) x9 ())).bind fun x10 =>
  Res.ok (((x1, x3).1, (x1, x3).2, x4).1, ((x1, x3).1, (x1, x3).2, x4).2.1, ((x1, x3).1, (x1, x3).2, x4).2.2, x5))))))))
theorem n_Net_init_i_lpiiq (a0 : Int) (a1 : (List (Int × Int))) : Rf (m_Net_init [D.int a0, (eL (eP2 D.int D.int)) a1]) (N_Net_init_i_lpiiq a0 a1) (eOb4 "Net" "size" "links" "near" "lane_row" D.int (eT (eP2 D.int D.int)) (eT (eT D.int)) (eT (eP2 D.int D.int))) :=
  n_runI ((t_if (evNot (evB (evChain rfl rfl rfl rfl rfl))) (t_raise fin_I (a_p rfl (a_0 (rf_ex rfl))))
  (t_nextS (t_seq fin_I (fun x1 : Int => [some ((eOb1 "Net" "size" D.int) x1), some (D.int a0), some ((eL (eP2 D.int D.int)) a1), none, none]) (s_fld (e := D.int) (ns := []) (ds := []) (fun v : Int => [some ((eOb1 "Net" "size" D.int) v), some (D.int a0), some ((eL (eP2 D.int D.int)) a1), none, none]) rfl (by decide) (rf_ok (e := D.int) rfl) fun _ => rfl) fun x1 =>
  (t_seq fin_I (fun x3 : (List (Int × Int)) => [some ((eOb2 "Net" "size" "links" D.int (eT (eP2 D.int D.int))) (x1, x3)), some (D.int a0), some ((eL (eP2 D.int D.int)) a1), none, none]) (s_fld (e := (eT (eP2 D.int D.int))) (ns := ["size"]) (ds := [D.int x1]) (fun v : (List (Int × Int)) => [some ((eOb2 "Net" "size" "links" D.int (eT (eP2 D.int D.int))) (x1, v)), some (D.int a0), some ((eL (eP2 D.int D.int)) a1), none, none]) rfl (by decide) (q_on (a_p rfl (a_i (q_on (a_p rfl (a_0 (rf_chk (n_frozen_lpiiq a1) rfl)))) fun x2 => (a_0 (rf_chk (n_checked_links_i_tpiiq a0 x2) rfl))))) fun _ => rfl) fun x3 =>
  (t_seq fin_I (fun x4 : (List (List Int)) => [some ((eOb3 "Net" "size" "links" "near" D.int (eT (eP2 D.int D.int)) (eT (eT D.int))) ((x1, x3).1, (x1, x3).2, x4)), some (D.int a0), some ((eL (eP2 D.int D.int)) a1), none, none]) (s_fld (e := (eT (eT D.int))) (ns := ["size", "links"]) (ds := [D.int ((x1, x3).1), (eT (eP2 D.int D.int)) ((x1, x3).2)]) (fun v : (List (List Int)) => [some ((eOb3 "Net" "size" "links" "near" D.int (eT (eP2 D.int D.int)) (eT (eT D.int))) ((x1, x3).1, (x1, x3).2, v)), some (D.int a0), some ((eL (eP2 D.int D.int)) a1), none, none]) rfl (by decide) (q_on (a_p rfl (a_p (ev1 rfl (fld_skip (by decide) fld_hit)) (a_0 (rf_chk (n_near_nodes_i_tpiiq a0 ((x1, x3).2)) rfl))))) fun _ => rfl) fun x4 =>
  (t_seq fin_I (fun x5 : (List (Int × Int)) => [some ((eOb4 "Net" "size" "links" "near" "lane_row" D.int (eT (eP2 D.int D.int)) (eT (eT D.int)) (eT (eP2 D.int D.int))) (((x1, x3).1, (x1, x3).2, x4).1, ((x1, x3).1, (x1, x3).2, x4).2.1, ((x1, x3).1, (x1, x3).2, x4).2.2, x5)), some (D.int a0), some ((eL (eP2 D.int D.int)) a1), none, none]) (s_fld (e := (eT (eP2 D.int D.int))) (ns := ["size", "links", "near"]) (ds := [D.int (((x1, x3).1, (x1, x3).2, x4).1), (eT (eP2 D.int D.int)) (((x1, x3).1, (x1, x3).2, x4).2.1), (eT (eT D.int)) (((x1, x3).1, (x1, x3).2, x4).2.2)]) (fun v : (List (Int × Int)) => [some ((eOb4 "Net" "size" "links" "near" "lane_row" D.int (eT (eP2 D.int D.int)) (eT (eT D.int)) (eT (eP2 D.int D.int))) (((x1, x3).1, (x1, x3).2, x4).1, ((x1, x3).1, (x1, x3).2, x4).2.1, ((x1, x3).1, (x1, x3).2, x4).2.2, v)), some (D.int a0), some ((eL (eP2 D.int D.int)) a1), none, none]) rfl (by decide) (q_on (a_p (ev1 rfl (fld_skip (by decide) (fld_skip (by decide) fld_hit))) (a_0 (rf_chk (n_lanes_of_tti (((x1, x3).1, (x1, x3).2, x4).2.2)) rfl)))) fun _ => rfl) fun x5 =>
  (t_seq fin_I (fun x6 : (List Int) => [some ((eOb4 "Net" "size" "links" "near" "lane_row" D.int (eT (eP2 D.int D.int)) (eT (eT D.int)) (eT (eP2 D.int D.int))) (((x1, x3).1, (x1, x3).2, x4).1, ((x1, x3).1, (x1, x3).2, x4).2.1, ((x1, x3).1, (x1, x3).2, x4).2.2, x5)), some (D.int a0), some ((eL (eP2 D.int D.int)) a1), some ((eT D.int) x6), none]) (s_set (e := (eT D.int)) _ (q_on (a_p rfl (a_p (ev1 rfl (fld_skip (by decide) fld_hit)) (a_p rfl (a_0 (rf_chk (n_reached_i_tpiiq_i a0 ((((x1, x3).1, (x1, x3).2, x4).1, ((x1, x3).1, (x1, x3).2, x4).2.1, ((x1, x3).1, (x1, x3).2, x4).2.2, x5).2.1) 0) rfl)))))) fun _ => rfl) fun x6 =>
  (t_end (t_seq fin_I (fun x10 : Unit => [some ((eOb4 "Net" "size" "links" "near" "lane_row" D.int (eT (eP2 D.int D.int)) (eT (eT D.int)) (eT (eP2 D.int D.int))) (((x1, x3).1, (x1, x3).2, x4).1, ((x1, x3).1, (x1, x3).2, x4).2.1, ((x1, x3).1, (x1, x3).2, x4).2.2, x5)), some (D.int a0), some ((eL (eP2 D.int D.int)) a1), some ((eT D.int) x6), none]) (s_for (ex := D.int) (s0 := ()) (q_R1 (a_p rfl (a_0 k_R1))) (fun x7 : Unit => [some ((eOb4 "Net" "size" "links" "near" "lane_row" D.int (eT (eP2 D.int D.int)) (eT (eT D.int)) (eT (eP2 D.int D.int))) (((x1, x3).1, (x1, x3).2, x4).1, ((x1, x3).1, (x1, x3).2, x4).2.1, ((x1, x3).1, (x1, x3).2, x4).2.2, x5)), some (D.int a0), some ((eL (eP2 D.int D.int)) a1), some ((eT D.int) x6), none]) (fun (x7 : Unit) (x8 : Int) => [some ((eOb4 "Net" "size" "links" "near" "lane_row" D.int (eT (eP2 D.int D.int)) (eT (eT D.int)) (eT (eP2 D.int D.int))) (((x1, x3).1, (x1, x3).2, x4).1, ((x1, x3).1, (x1, x3).2, x4).2.1, ((x1, x3).1, (x1, x3).2, x4).2.2, x5)), some (D.int a0), some ((eL (eP2 D.int D.int)) a1), some ((eT D.int) x6), some (D.int x8)]) rfl (fun _ _ => rfl) fun x7 x8 =>
  (t_if (evB (ev2 rfl rfl (op_nmemT (e := D.int) (x := x8) (xs := x6)))) (t_raise fin_L (a_p rfl (a_0 (rf_ex rfl))))
  (t_nextS (t_next rfl)))) fun x10 =>
  (t_next (o := (eOb4 "Net" "size" "links" "near" "lane_row" D.int (eT (eP2 D.int D.int)) (eT (eT D.int)) (eT (eP2 D.int D.int)))) (v := (((x1, x3).1, (x1, x3).2, x4).1, ((x1, x3).1, (x1, x3).2, x4).2.1, ((x1, x3).1, (x1, x3).2, x4).2.2, x5)) rfl)))))))))))
def N_frozen_ti (a0 : (List Int)) : Res (List Int) :=
  ((lcR a0 (fun x1 => Res.ok true) (fun x1 => (N_frozen_i x1))).bind fun x2 => (Res.ok x2))
theorem nr_frozen_ti (n : Nat) (a0 : (List Int)) : Rf (r_frozen (n + 2) [(eT D.int) a0]) (N_frozen_ti a0) (eT D.int) :=
  n_runF ((t_ifT (evTr (ev1 rfl (isi2_b isTy_list_tup isTy_tuple_tup)) rfl) (t_retF (q_on (a_i (rf_lcp (it_T (e := D.int) (xs := a0) rfl) (fun x1 : Int => [some ((eT D.int) a0), some (D.int x1)]) (fun _ => rfl) (fun x1 => (rf_ok (v := true) rfl)) (fun x1 => (q_on (a_p rfl (a_0 (rf_chk (nr_frozen_i (n + 0) x1) rfl)))))) fun x2 => (a_0 (rf_ok rfl)))))))
theorem n_frozen_ti (a0 : (List Int)) : Rf (m_frozen [(eT D.int) a0]) (N_frozen_ti a0) (eT D.int) := nr_frozen_ti 4 a0
def N_frozen_lti (a0 : (List (List Int))) : Res (List (List Int)) :=
  ((lcR a0 (fun x1 => Res.ok true) (fun x1 => (N_frozen_ti x1))).bind fun x2 => (Res.ok x2))
theorem nr_frozen_lti (n : Nat) (a0 : (List (List Int))) : Rf (r_frozen (n + 3) [(eL (eT D.int)) a0]) (N_frozen_lti a0) (eT (eT D.int)) :=
  n_runF ((t_ifT (evTr (ev1 rfl (isi2_a isTy_list_lst)) rfl) (t_retF (q_on (a_i (rf_lcp (it_L (e := (eT D.int)) (xs := a0) rfl) (fun x1 : (List Int) => [some ((eL (eT D.int)) a0), some ((eT D.int) x1)]) (fun _ => rfl) (fun x1 => (rf_ok (v := true) rfl)) (fun x1 => (q_on (a_p rfl (a_0 (rf_chk (nr_frozen_ti (n + 0) x1) rfl)))))) fun x2 => (a_0 (rf_ok rfl)))))))
theorem n_frozen_lti (a0 : (List (List Int))) : Rf (m_frozen [(eL (eT D.int)) a0]) (N_frozen_lti a0) (eT (eT D.int)) := nr_frozen_lti 3 a0
end Kx
namespace Kx
open PySem PySem.Spec L2 Da
abbrev al_BadSize : List (Str × Bool) := [("BadStep", false), ("TooLarge", false), ("BadLink", false), ("BadSize", true), ("NotConnected", false)]
abbrev al_BadStep : List (Str × Bool) := [("BadStep", true), ("TooLarge", false), ("BadLink", false), ("BadSize", false), ("NotConnected", false)]
abbrev al_BookError : List (Str × Bool) := [("BadStep", true), ("TooLarge", true), ("BadLink", true), ("BadSize", true), ("NotConnected", true)]
abbrev al_TooLarge : List (Str × Bool) := [("BadStep", false), ("TooLarge", true), ("BadLink", false), ("BadSize", false), ("NotConnected", false)]
abbrev al_ValueError : List (Str × Bool) := [("BadStep", true), ("TooLarge", true), ("BadLink", true), ("BadSize", true), ("NotConnected", true)]
def F_law_closure : FS := (fSeq (fSet 2 (fOn gLstD (fA (fOn (on1 dTuple) (fA (fLc [6] (fR1 (fA (fV 0) fA0)) (gN 6) fYes (fV 6)) fA0)) fA0)))
    (fSeq (fFor (fR1 (fA (fC (.int 30)) fA0)) (gN 3) (fFgt [3, 4, 5] (fSeq (fIfS (fB (f2 dGe (fV 3) (fSc (fOn (on1 dLen) (fA (fV 2) fA0))))) fBrk fNext)
    (fFor (fL (fV 1)) (gN 4) (fFgt [4, 5] (fSeq (fSet 5 (fOn (on1 dTuple) (fA (fLc [6] (fL (f2 dIx (fV 2) (fV 3))) (gN 6) fYes (f2 dIx (fV 4) (fV 6))) fA0)))
    (fSeq (fFgt [] (fIfS (fNx (fB (f2 dNotIn (fV 5) (fV 2)))) (fApp 2 (fV 5)) fNext))
    (fIfS (fB (f2 dGt (fSc (fOn (on1 dLen) (fA (fV 2) fA0))) (fC (.int 24)))) (fRet (fC .non)) fNext))))))))
    (fRet (fOn (on1 dSorted) (fA (fV 2) fA0)))))
def m_law_closure : List D → Res D := runF 7 .sh F_law_closure
def F_is_perm : FS := (fSeq (fSet 0 (fOn (chk 1 m_frozen) (fA (fV 0) fA0)))
    (fSeq (fIfS (fOr (fB (f2 dNe (fOn (on1 dLen) (fA (fV 0) fA0)) (fV 1))) (fNot (fTr (fOn (on1 dAll) (fA (fLc [2] (fL (fV 0)) (gN 2) fYes (fOn (chk 1 m_is_number) (fA (fV 2) fA0))) fA0))))) (fRet (fC (.bl false))) fNext)
    (fRet (f2 dEq (fOn (on1 dSorted) (fA (fV 0) fA0)) (fListR1 (fV 1))))))
def m_is_perm : List D → Res D := runF 3 .sh F_is_perm
def F_checked_steps : FS := (fSeq (fSet 1 (fOn (chk 1 m_frozen) (fA (fV 1) fA0)))
    (fSeq (fFor (fEnum (fA (fV 1) fA0)) (gT (gsC (gN 2) (gsC (gN 3) gs0))) (fFgt [2, 3] (fIfS (fNot (fTr (fOn (chk 2 m_is_perm) (fA (fV 3) (fA (fV 0) fA0))))) (fRaise "BadStep" ["index"] (fA (fV 2) fA0)) fNext)))
    (fRet (fV 1))))
def m_checked_steps : List D → Res D := runF 4 .sh F_checked_steps
def F_identity : FS := (fRet (fTupleR1 (fV 0)))
def m_identity : List D → Res D := runF 1 .sh F_identity
def F_composed : FS := (fRet (fOn (on1 dTuple) (fA (fLc [2] (fL (fV 0)) (gN 2) fYes (f2 dIx (fV 1) (fV 2))) fA0)))
def m_composed : List D → Res D := runF 3 .sh F_composed
def F_group : FS := (fSeq (fSet 1 (fOn (chk 2 m_checked_steps) (fA (fV 0) (fA (fV 1) fA0))))
    (fSeq (fSet 2 (fOn gLstD (fA (fOn (chk 1 m_identity) (fA (fV 0) fA0)) fA0)))
    (fSeq (fSet 3 (fDisp1T (fOn (chk 1 m_identity) (fA (fV 0) fA0)) (fC (.bl true))))
    (fSeq (fSet 4 (fC (.int 0)))
    (fSeq (fWhile (fB (f2 dLt (fV 4) (fSc (fOn (on1 dLen) (fA (fV 2) fA0))))) (fFgt [5, 6] (fSeq (fFor (fL (fV 1)) (gN 5) (fFgt [5, 6] (fSeq (fSet 6 (fOn (chk 2 m_composed) (fA (f2 dIx (fV 2) (fV 4)) (fA (fV 5) fA0))))
    (fSeq (fFgt [] (fIfS (fNx (fB (f2 (dHasT true) (fV 6) (fV 3)))) (fSeq (fPutT 3 (fC (.bl true)) (fV 6))
    (fApp 2 (fV 6))) fNext))
    (fIfS (fB (f2 dGt (fSc (fOn (on1 dLen) (fA (fV 2) fA0))) (fC (.int 24)))) (fRaise "TooLarge" ["limit"] (fA (fC (.int 24)) fA0)) fNext)))))
    (fAug 4 (dI yes2 fun i j => i + j) (fC (.int 1))))))
    (fRet (fOn (on1 dTuple) (fA (fOn (on1 dSorted) (fA (fV 2) fA0)) fA0))))))))
def m_group : List D → Res D := runF 7 .sh F_group
def F_node_numbers : FS := (fRet (fDcT [1, 2] (fEnum (fA (fV 0) fA0)) (gT (gsC (gN 1) (gsC (gN 2) gs0))) fYes (fV 2) (fV 1)))
def m_node_numbers : List D → Res D := runF 3 .sh F_node_numbers
def F_step_net : FS := (fSeq (fSet 2 (fOn (chk 2 m_group) (fA (fV 0) (fA (fV 1) fA0))))
    (fSeq (fSet 3 (fOn (chk 1 m_node_numbers) (fA (fV 2) fA0)))
    (fSeq (fSet 4 (fOn gLstD fA0))
    (fSeq (fFor (fL (fV 2)) (gN 5) (fFgt [5, 6, 7] (fFor (fL (fOn (chk 1 m_frozen) (fA (fV 1) fA0))) (gN 6) (fFgt [6, 7] (fSeq (fSet 7 (fOn (chk 2 m_composed) (fA (fV 5) (fA (fV 6) fA0))))
    (fFgt [] (fIfS (fB (f2 dNe (fV 7) (fV 5))) (fApp 4 (fOn gTupD (fA (f2 dGetT (fV 3) (fV 5)) (fA (f2 dGetT (fV 3) (fV 7)) fA0)))) fNext)))))))
    (fRet (fOn (chk 2 m_Net_init) (fA (fOn (on1 dLen) (fA (fV 2) fA0)) (fA (fV 4) fA0))))))))
def m_step_net : List D → Res D := runF 8 .sh F_step_net
def F_step_turns : FS := (fSeq (fSet 2 (fOn (chk 2 m_group) (fA (fV 0) (fA (fV 1) fA0))))
    (fSeq (fSet 3 (fOn (chk 1 m_node_numbers) (fA (fV 2) fA0)))
    (fRet (fOn (on1 dTuple) (fA (fLc [4] (fL (fV 2)) (gN 4) fYes (fOn (on1 dTuple) (fA (fLc [5] (fL (fV 2)) (gN 5) fYes (f2 dGetT (fV 3) (fOn (chk 2 m_composed) (fA (fV 4) (fA (fV 5) fA0))))) fA0))) fA0)))))
def m_step_turns : List D → Res D := runF 6 .sh F_step_turns
def F_law_asked : FS := (fTry 5 3 al_BookError (fSeq (fIfS (fB (f2 dEq (fV 0) (fC (.int 1)))) (fRet (fOn gLstD (fA (fC (.str (Str.ofString "size"))) (fA (f1 (dFld "Net" "size") (fOn (chk 2 m_step_net) (fA (fV 1) (fA (fV 2) fA0)))) fA0)))) fNext)
    (fSeq (fIfS (fB (f2 dEq (fV 0) (fC (.int 2)))) (fRet (fOn gLstD (fA (fC (.str (Str.ofString "size"))) (fA (fOn (on1 dLen) (fA (fOn (chk 2 m_step_turns) (fA (fV 1) (fA (fV 2) fA0))) fA0)) fA0)))) fNext)
    (fRet (fOn gLstD (fA (fC (.str (Str.ofString "made"))) (fA (fOn (chk 2 m_group) (fA (fV 1) (fA (fV 2) fA0))) fA0)))))) (fSeq (fSet 4 (fOn gLstD (fA (fIsE 3 al_BadStep) (fA (fIsE 3 al_TooLarge) (fA (fIsE 3 al_BadSize) (fA (fBv (fNot (fB (fIsE 3 al_ValueError)))) fA0))))))
    (fSeq (fIfS (fNx (fB (f2 dEq (fV 4) (fOn gLstD (fA (fC (.bl true)) (fA (fC (.bl false)) (fA (fC (.bl false)) (fA (fC (.bl false)) fA0)))))))) (fRet (fOn gLstD (fA (fC (.str (Str.ofString "step"))) (fA (fFldC 3 "index" ["BadStep", "BadLink"]) fA0)))) fNext)
    (fSeq (fIfS (fNx (fB (f2 dEq (fV 4) (fOn gLstD (fA (fC (.bl false)) (fA (fC (.bl true)) (fA (fC (.bl false)) (fA (fC (.bl false)) fA0)))))))) (fRet (fOn gLstD (fA (fC (.str (Str.ofString "large"))) (fA (fFldC 3 "limit" ["TooLarge"]) fA0)))) fNext)
    (fRet (fOn gLstD (fA (fC (.str (Str.ofString "other"))) fA0)))))))
def m_law_asked : List D → Res D := runF 5 .sh F_law_asked
def F_law_told : FS := (fSeq (fSet 2 (fOn (chk 2 m_law_closure) (fA (fV 0) (fA (fV 1) fA0))))
    (fSeq (fSet 3 (fLc [6] (fL (fV 1)) (gN 6) fYes (fOn (on1 dList) (fA (fV 6) fA0))))
    (fSeq (fSet 4 (fOn (chk 3 m_law_asked) (fA (fC (.int 0)) (fA (fV 0) (fA (fV 3) fA0)))))
    (fSeq (fIfS (fB (f1 dIsN (fV 2))) (fSeq (fSet 5 (fOn gLstD (fA (fOn (chk 3 m_law_asked) (fA (fC (.int 1)) (fA (fV 0) (fA (fV 3) fA0)))) (fA (fOn (chk 3 m_law_asked) (fA (fC (.int 2)) (fA (fV 0) (fA (fV 1) fA0)))) fA0))))
    (fRet (fBv (fAnd (fB (f2 dEq (fV 4) (fOn gLstD (fA (fC (.str (Str.ofString "large"))) (fA (fC (.int 24)) fA0))))) (fB (fSc (f2 dEq (fV 5) (fOn gLstD (fA (fOn gLstD (fA (fC (.str (Str.ofString "large"))) (fA (fC (.int 24)) fA0))) (fA (fOn gLstD (fA (fC (.str (Str.ofString "large"))) (fA (fC (.int 24)) fA0))) fA0)))))))))) fNext)
    (fRet (fBv (fAnd (fB (f2 dEq (f2 dIx (fV 4) (fC (.int 0))) (fC (.str (Str.ofString "made"))))) (fAnd (fB (fOn (chk 2 m_law_same) (fA (f2 dIx (fV 4) (fC (.int 1))) (fA (fV 2) fA0)))) (fB (f2 dEq (fV 3) (fLc [6] (fL (fV 1)) (gN 6) fYes (fOn (on1 dList) (fA (fV 6) fA0)))))))))))))
def m_law_told : List D → Res D := runF 7 .sh F_law_told
def F_law_cycles : FS := (fSeq (fSet 3 (fLc [5] (fR1 (fA (fV 0) fA0)) (gN 5) fYes (fV 5)))
    (fSeq (fFor (fL (fV 2)) (gN 4) (fFgt [4, 5] (fFor (fR1 (fA (fOn (on1 dLen) (fA (fV 4) fA0)) fA0)) (gN 5) (fFgt [5] (fSetIx 3 (f2 dIx (fV 1) (f2 dIx (fV 4) (f2 dMod (f2 dAdd (fV 5) (fC (.int 1))) (fOn (on1 dLen) (fA (fV 4) fA0))))) (f2 dIx (fV 1) (f2 dIx (fV 4) (fV 5))))))))
    (fRet (fOn (on1 dTuple) (fA (fV 3) fA0)))))
def m_law_cycles : List D → Res D := runF 6 .sh F_law_cycles
def F_law_built : FS := (fSeq (fSet 1 (f2 dIx (fOn gLstD (fA (fC (.int 4)) (fA (fC (.int 8)) (fA (fC (.int 7)) (fA (fC (.int 8)) (fA (fC (.int 5)) (fA (fC (.int 6)) (fA (fC (.int 7)) (fA (fC (.int 6)) fA0))))))))) (f2 dIx (fV 0) (fC (.int 0)))))
    (fSeq (fSet 1 (f2 dAdd (fV 1) (f2 dMod (f2 dIx (fV 0) (fC (.int 1))) (f2 dSub (fC (.int 9)) (fV 1)))))
    (fSeq (fSet 2 (fOn gLstD (fA (fOn gLstD (fA (fC (.int 0)) (fA (fC (.int 1)) (fA (fC (.int 2)) (fA (fC (.int 3)) fA0))))) fA0)))
    (fSeq (fSet 3 (fOn gLstD (fA (fOn gLstD (fA (fC (.int 0)) (fA (fC (.int 1)) fA0))) fA0)))
    (fSeq (fFgt [] (fIfS (fB (f2 dEq (f2 dIx (fV 0) (fC (.int 0))) (fC (.int 1)))) (fSet 2 (fOn gLstD (fA (fOn gLstD (fA (fC (.int 0)) (fA (fC (.int 1)) (fA (fC (.int 2)) fA0)))) (fA (fOn gLstD (fA (fC (.int 3)) (fA (fC (.int 4)) (fA (fC (.int 5)) (fA (fC (.int 6)) (fA (fC (.int 7)) fA0)))))) fA0)))) fNext))
    (fSeq (fFgt [] (fIfS (fB (f2 dEq (f2 dIx (fV 0) (fC (.int 0))) (fC (.int 2)))) (fSet 2 (fOn gLstD (fA (fOn gLstD (fA (fC (.int 0)) (fA (fC (.int 1)) (fA (fC (.int 2)) fA0)))) (fA (fOn gLstD (fA (fC (.int 3)) (fA (fC (.int 4)) (fA (fC (.int 5)) (fA (fC (.int 6)) fA0))))) fA0)))) fNext))
    (fSeq (fFgt [] (fIfS (fB (f2 dEq (f2 dIx (fV 0) (fC (.int 0))) (fC (.int 3)))) (fSeq (fSet 2 (fOn gLstD (fA (fOn gLstD (fA (fC (.int 0)) (fA (fC (.int 1)) (fA (fC (.int 2)) fA0)))) fA0)))
    (fSet 3 (fOn gLstD (fA (fOn gLstD (fA (fC (.int 3)) (fA (fC (.int 4)) (fA (fC (.int 5)) (fA (fC (.int 6)) (fA (fC (.int 7)) fA0)))))) fA0)))) fNext))
    (fSeq (fFgt [] (fIfS (fB (f2 dEq (f2 dIx (fV 0) (fC (.int 0))) (fC (.int 4)))) (fSeq (fSet 2 (fOn gLstD (fA (fOn gLstD (fA (fC (.int 0)) (fA (fC (.int 1)) (fA (fC (.int 2)) (fA (fC (.int 3)) (fA (fC (.int 4)) fA0)))))) fA0)))
    (fSet 3 (fOn gLstD (fA (fOn gLstD (fA (fC (.int 1)) (fA (fC (.int 2)) (fA (fC (.int 4)) (fA (fC (.int 3)) fA0))))) fA0)))) fNext))
    (fSeq (fFgt [] (fIfS (fB (f2 dEq (f2 dIx (fV 0) (fC (.int 0))) (fC (.int 5)))) (fSet 3 (fOn gLstD (fA (fOn gLstD (fA (fC (.int 0)) (fA (fC (.int 2)) fA0))) (fA (fOn gLstD (fA (fC (.int 4)) (fA (fC (.int 5)) fA0))) fA0)))) fNext))
    (fSeq (fFgt [] (fIfS (fB (f2 dEq (f2 dIx (fV 0) (fC (.int 0))) (fC (.int 6)))) (fSet 3 (fOn gLstD (fA (fOn gLstD (fA (fC (.int 4)) (fA (fC (.int 5)) (fA (fC (.int 6)) fA0)))) fA0))) fNext))
    (fSeq (fFgt [] (fIfS (fB (f2 dEq (f2 dIx (fV 0) (fC (.int 0))) (fC (.int 7)))) (fSeq (fSet 2 (fOn gLstD (fA (fOn gLstD (fA (fC (.int 0)) (fA (fC (.int 1)) (fA (fC (.int 2)) fA0)))) (fA (fOn gLstD (fA (fC (.int 4)) (fA (fC (.int 5)) fA0))) fA0))))
    (fSet 3 (fOn gLstD (fA (fOn gLstD (fA (fC (.int 1)) (fA (fC (.int 2)) (fA (fC (.int 3)) fA0)))) (fA (fOn gLstD (fA (fC (.int 4)) (fA (fC (.int 5)) fA0))) fA0))))) fNext))
    (fSeq (fSet 4 (fOn (chk 2 m_law_day) (fA (fV 1) (fA (fCut dCut (fV 0) (fSoI (fC (.int 2))) fNoI) fA0))))
    (fRet (fOn gLstD (fA (fV 1) (fA (fOn gLstD (fA (fOn (chk 3 m_law_cycles) (fA (fV 1) (fA (fV 4) (fA (fV 2) fA0)))) (fA (fOn (chk 3 m_law_cycles) (fA (fV 1) (fA (fV 4) (fA (fV 3) fA0)))) fA0))) fA0))))))))))))))))
def m_law_built : List D → Res D := runF 5 .ow F_law_built
def F_law_step : FS := (fSeq (fIfS (fB (f2 dLe (f2 dIx (fV 1) (fC (.int 0))) (fC (.int 1)))) (fRet (fOn (chk 2 m_law_day) (fA (fV 0) (fA (fCut dCut (fV 1) (fSoI (fC (.int 4))) fNoI) fA0)))) fNext)
    (fSeq (fIfS (fB (f2 dEq (f2 dIx (fV 1) (fC (.int 0))) (fC (.int 2)))) (fRet (fOn (on1 dTuple) (fA (fLc [5] (fR1 (fA (fV 0) fA0)) (gN 5) fYes (f2 dMod (fOn (on1 dInt) (fA (f2 dAdd (fV 5) (f2 dIx (fV 1) (fC (.int 1)))) fA0)) (fV 0))) fA0))) fNext)
    (fSeq (fIfS (fB (f2 dEq (f2 dIx (fV 1) (fC (.int 0))) (fC (.int 3)))) (fRet (fOn (on1 dTuple) (fA (fLc [5] (fR1 (fA (fV 0) fA0)) (gN 5) fYes (f2 dMod (fOn (on1 dInt) (fA (f2 dSub (f2 dIx (fV 1) (fC (.int 1))) (fV 5)) fA0)) (fV 0))) fA0))) fNext)
    (fSeq (fSet 2 (f2 dMod (f2 dIx (fV 1) (fC (.int 1))) (fV 0)))
    (fSeq (fSet 3 (f2 dMod (f2 dIx (fV 1) (fC (.int 2))) (fV 0)))
    (fSeq (fSet 4 (fLc [5] (fR1 (fA (fV 0) fA0)) (gN 5) fYes (fV 5)))
    (fSeq (fSetIx 4 (fV 3) (fV 2))
    (fSeq (fSetIx 4 (fV 2) (fV 3))
    (fRet (fOn (on1 dTuple) (fA (fV 4) fA0)))))))))))
def m_law_step : List D → Res D := runF 6 .sh F_law_step
def F_law : FS := (fSeq (fSet 1 (fOn (chk 2 m_law_digits) (fA (fOn (chk 2 m_law_cell) (fA (fV 0) (fA (fC (.int 0)) fA0))) (fA (fOn gLstD (fA (fC (.int 8)) (fA (fC (.int 5)) (fA (fC (.int 5)) (fA (fC (.int 4)) (fA (fC (.int 9)) fA0)))))) fA0))))
    (fSeq (fSet 2 (f2 dAdd (fC (.int 1)) (f2 dIx (fV 1) (fC (.int 0)))))
    (fSeq (fFgt [] (fIfS (fB (f2 dGt (f2 dIx (fV 1) (fC (.int 3))) (fC (.int 0)))) (fSet 2 (f2 dAdd (fC (.int 1)) (f2 dMod (f2 dIx (fV 1) (fC (.int 0))) (fC (.int 5))))) fNext))
    (fSeq (fSet 3 (fOn gLstD fA0))
    (fSeq (fFor (fR1 (fA (f2 dIx (fV 1) (fC (.int 1))) fA0)) (gN 4) (fFgt [4] (fApp 3 (fOn (chk 2 m_law_step) (fA (fV 2) (fA (fOn (chk 2 m_law_digits) (fA (fOn (chk 2 m_law_cell) (fA (fV 0) (fA (f2 dAdd (fC (.int 1)) (fV 4)) fA0))) (fA (f2 dAddL (fOn gLstD (fA (fC (.int 6)) (fA (fC (.int 8)) (fA (fC (.int 8)) (fA (fC (.int 8)) fA0))))) (f2 dRep (fOn gLstD (fA (fC (.int 24)) fA0)) (fC (.int 8)))) fA0))) fA0))))))
    (fSeq (fIfS (fNot (fNx (fTr (fOn (chk 2 m_law_told) (fA (fV 2) (fA (fV 3) fA0)))))) (fRet (fC (.bl false))) fNext)
    (fSeq (fSet 5 (f2 dIx (fOn gLstD (fA (f2 dRep (fOn gLstD (fA (fC (.int 0)) fA0)) (f2 dAdd (fV 2) (fC (.int 1)))) (fA (f2 dAddL (fOn gLstD (fA (fV 2) fA0)) (fLc [4] (fR2 (fA (fC (.int 1)) (fA (fV 2) fA0))) (gN 4) fYes (fV 4))) (fA (fOn gLstD fA0) (fA (f2 dAddL (fOn gLstD (fA (f1 dNeg (fC (.int 1))) fA0)) (fLc [4] (fR2 (fA (fC (.int 1)) (fA (fV 2) fA0))) (gN 4) fYes (fV 4))) fA0))))) (f2 dMod (f2 dIx (fV 1) (fC (.int 4))) (fC (.int 4)))))
    (fSeq (fSet 6 (fOn (on2 dMin2) (fA (f2 dIx (fV 1) (fC (.int 2))) (fA (fSc (fOn (on1 dLen) (fA (fV 3) fA0))) fA0))))
    (fSeq (fSet 7 (f2 dAddL (f2 dAddL (f2 dAddL (fLc [11] (fL (fCut dCutL (fV 3) fNoI (fSoI (fV 6)))) (gN 11) fYes (fOn (on1 dList) (fA (fV 11) fA0))) (fOn gLstD (fA (fV 5) fA0))) (fLc [11] (fL (fCut dCutL (fV 3) (fSoI (fV 6)) fNoI)) (gN 11) fYes (fOn (on1 dList) (fA (fV 11) fA0)))) (fOn gLstD (fA (fOn gLstD fA0) fA0))))
    (fSeq (fFor (fR1 (fA (fC (.int 3)) fA0)) (gN 8) (fFgt [8] (fIfS (fNx (fB (f2 dNe (fOn (chk 3 m_law_asked) (fA (fV 8) (fA (fV 2) (fA (fV 7) fA0)))) (fOn gLstD (fA (fC (.str (Str.ofString "step"))) (fA (fV 6) fA0)))))) (fRet (fC (.bl false))) fNext)))
    (fSeq (fFor (fR1 (fA (fC (.int 2)) fA0)) (gN 9) (fFgt [9, 10] (fSeq (fSet 10 (fOn (chk 1 m_law_built) (fA (fOn (chk 2 m_law_digits) (fA (fOn (chk 2 m_law_cell) (fA (fV 0) (fA (f2 dAdd (fC (.int 5)) (fV 9)) fA0))) (fA (f2 dAddL (fOn gLstD (fA (fC (.int 8)) (fA (fC (.int 8)) fA0))) (f2 dRep (fOn gLstD (fA (fC (.int 24)) fA0)) (fC (.int 8)))) fA0))) fA0)))
    (fIfS (fNot (fTr (fOn (chk 2 m_law_told) (fA (f2 dIx (fV 10) (fC (.int 0))) (fA (f2 dIx (fV 10) (fC (.int 1))) fA0))))) (fRet (fC (.bl false))) fNext))))
    (fRet (fC (.bl true))))))))))))))
def m_law : List D → Res D := runF 12 .sh F_law
def N_law_step_i_li (a0 : Int) (a1 : (List Int)) : Res (List Int) :=
  (((ixR a1 0).bind fun x1 => (Res.ok (decide (x1 ≤ 1)))).bind fun x27 => if x27 = true then (N_law_day_i_li a0 (cutN a1 (some 4) none)) else
  (((ixR a1 0).bind fun x2 => (Res.ok (decide (x2 = 2)))).bind fun x26 => if x26 = true then (((rngR a0).bind fun x7 => lcR x7 (fun x3 => Res.ok true) (fun x3 => ((((ixR a1 1).bind fun x4 => (Res.ok (x3 + x4))).bind fun x5 => (Res.ok x5)).bind fun x6 => (modR x6 a0)))).bind fun x8 => (Res.ok x8)) else
  (((ixR a1 0).bind fun x9 => (Res.ok (decide (x9 = 3)))).bind fun x25 => if x25 = true then (((rngR a0).bind fun x14 => lcR x14 (fun x10 => Res.ok true) (fun x10 => ((((ixR a1 1).bind fun x11 => (Res.ok (x11 - x10))).bind fun x12 => (Res.ok x12)).bind fun x13 => (modR x13 a0)))).bind fun x15 => (Res.ok x15)) else
  (((ixR a1 1).bind fun x16 => (modR x16 a0)).bind fun x17 =>
  (((ixR a1 2).bind fun x18 => (modR x18 a0)).bind fun x19 =>
  (((rngR a0).bind fun x21 => lcR x21 (fun x20 => Res.ok true) (fun x20 => (Res.ok x20))).bind fun x22 =>
  ((setR x22 x17 x19).bind fun x23 =>
  ((setR x23 x19 x17).bind fun x24 =>
  (Res.ok x24)))))))))
theorem n_law_step_i_li (a0 : Int) (a1 : (List Int)) : Rf (m_law_step [D.int a0, (eL D.int) a1]) (N_law_step_i_li a0 a1) (eT D.int) :=
  n_runF ((t_ifI fin_F (q_B (b_iB (q_f2 (b_i (q_f2 (b_p rfl (b_p rfl op_ixL))) fun x1 => (b_p rfl (rf_ok rfl)))))) (t_retF (q_on (a_p rfl (a_p (evCut rfl rfl rfl op_cutL) (a_0 (rf_chk (n_law_day_i_li a0 (cutN a1 (some 4) none)) rfl))))))
  (t_nextS (t_ifI fin_F (q_B (b_iB (q_f2 (b_i (q_f2 (b_p rfl (b_p rfl op_ixL))) fun x2 => (b_p rfl (rf_ok (op_eq (e := D.int) (x := x2) (x' := 2)))))))) (t_retF (q_on (a_i (rf_lc (q_R1 (a_p rfl (a_0 k_R1))) (fun x3 : Int => [some (D.int a0), some ((eL D.int) a1), none, none, none, some (D.int x3)]) (fun _ => rfl) (fun x3 => (rf_ok (v := true) rfl)) (fun x3 => (q_f2 (b_i (q_on (a_i (q_f2 (b_p rfl (b_i (q_f2 (b_p rfl (b_p rfl op_ixL))) fun x4 => (rf_ok rfl)))) fun x5 => (a_0 (rf_ok rfl)))) fun x6 => (b_p rfl op_mod))))) fun x8 => (a_0 (rf_ok rfl)))))
  (t_nextS (t_ifI fin_F (q_B (b_iB (q_f2 (b_i (q_f2 (b_p rfl (b_p rfl op_ixL))) fun x9 => (b_p rfl (rf_ok (op_eq (e := D.int) (x := x9) (x' := 3)))))))) (t_retF (q_on (a_i (rf_lc (q_R1 (a_p rfl (a_0 k_R1))) (fun x10 : Int => [some (D.int a0), some ((eL D.int) a1), none, none, none, some (D.int x10)]) (fun _ => rfl) (fun x10 => (rf_ok (v := true) rfl)) (fun x10 => (q_f2 (b_i (q_on (a_i (q_f2 (b_i (q_f2 (b_p rfl (b_p rfl op_ixL))) fun x11 => (b_p rfl (rf_ok rfl)))) fun x12 => (a_0 (rf_ok rfl)))) fun x13 => (b_p rfl op_mod))))) fun x15 => (a_0 (rf_ok rfl)))))
  (t_nextS (t_seq fin_F (fun x17 : Int => [some (D.int a0), some ((eL D.int) a1), some (D.int x17), none, none, none]) (s_set (e := D.int) _ (q_f2 (b_i (q_f2 (b_p rfl (b_p rfl op_ixL))) fun x16 => (b_p rfl op_mod))) fun _ => rfl) fun x17 =>
  (t_seq fin_F (fun x19 : Int => [some (D.int a0), some ((eL D.int) a1), some (D.int x17), some (D.int x19), none, none]) (s_set (e := D.int) _ (q_f2 (b_i (q_f2 (b_p rfl (b_p rfl op_ixL))) fun x18 => (b_p rfl op_mod))) fun _ => rfl) fun x19 =>
  (t_seq fin_F (fun x22 : (List Int) => [some (D.int a0), some ((eL D.int) a1), some (D.int x17), some (D.int x19), some ((eL D.int) x22), none]) (s_set (e := (eL D.int)) _ (rf_lc (q_R1 (a_p rfl (a_0 k_R1))) (fun x20 : Int => [some (D.int a0), some ((eL D.int) a1), some (D.int x17), some (D.int x19), none, some (D.int x20)]) (fun _ => rfl) (fun x20 => (rf_ok (v := true) rfl)) (fun x20 => (rf_ok (e := D.int) rfl))) fun _ => rfl) fun x22 =>
  (t_seq fin_F (fun x23 : (List Int) => [some (D.int a0), some ((eL D.int) a1), some (D.int x17), some (D.int x19), some ((eL D.int) x23), none]) (s_setIx (e := D.int) (xs := x22) (d := x19) (fun ys : (List Int) => [some (D.int a0), some ((eL D.int) a1), some (D.int x17), some (D.int x19), some ((eL D.int) ys), none]) rfl rfl rfl fun _ => rfl) fun x23 =>
  (t_seq fin_F (fun x24 : (List Int) => [some (D.int a0), some ((eL D.int) a1), some (D.int x17), some (D.int x19), some ((eL D.int) x24), none]) (s_setIx (e := D.int) (xs := x23) (d := x17) (fun ys : (List Int) => [some (D.int a0), some ((eL D.int) a1), some (D.int x17), some (D.int x19), some ((eL D.int) ys), none]) rfl rfl rfl fun _ => rfl) fun x24 =>
  (t_end (t_retF (rf_ok (e := (eT D.int)) rfl)))))))))))))))
def N_law_closure_i_lti (a0 : Int) (a1 : (List (List Int))) : Res (Option (List (List Int))) :=
  (((((rngR a0).bind fun x2 => lcR x2 (fun x1 => Res.ok true) (fun x1 => (Res.ok x1))).bind fun x3 => (Res.ok x3)).bind fun x4 => (Res.ok [x4])).bind fun x5 =>
  ((rngR 30).bind fun x21 => ((forC (σ := (List (List Int))) (β := (Option (List (List Int)))) (fun x6 x7 => (if (decide ((x6.length : Int) ≤ x7)) = true then Res.ok (.out x6) else
  ((forC (σ := (List (List Int))) (β := (Option (List (List Int)))) (fun x8 x9 => ((((ixR x8 x7).bind fun x11 => lcR x11 (fun x10 => Res.ok true) (fun x10 => (ixR x9 x10))).bind fun x12 => (Res.ok x12)).bind fun x13 =>
  ((if (!hasB x13 x8) = true then ((appR x8 x13).bind fun x16 =>
  Res.ok x16) else
  Res.ok x8).bind fun x17 =>
  (if (decide (24 < (x17.length : Int))) = true then Res.ok (.ret none) else
  Res.ok (.go x17))))) a1 x6).bind (ctlK (fun x18 => Res.ok (.go x18)) (fun v => Ctl.ret v))))) x21 x5).bind (ctlK (fun x19 => ((sortTR x19).bind fun x20 => Res.ok (some x20))) (fun v => v)))))
theorem n_law_closure_i_lti (a0 : Int) (a1 : (List (List Int))) : Rf (m_law_closure [D.int a0, (eL (eT D.int)) a1]) (N_law_closure_i_lti a0 a1) (eO (eL (eT D.int))) :=
  n_runF ((t_seq fin_F (fun x5 : (List (List Int)) => [some (D.int a0), some ((eL (eT D.int)) a1), some ((eL (eT D.int)) x5), none, none, none, none]) (s_set (e := (eL (eT D.int))) _ (q_on (a_i (q_on (a_i (rf_lc (q_R1 (a_p rfl (a_0 k_R1))) (fun x1 : Int => [some (D.int a0), some ((eL (eT D.int)) a1), none, none, none, none, some (D.int x1)]) (fun _ => rfl) (fun x1 => (rf_ok (v := true) rfl)) (fun x1 => (rf_ok (e := D.int) rfl))) fun x3 => (a_0 (rf_ok rfl)))) fun x4 => (a_0 (rf_ok rfl)))) fun _ => rfl) fun x5 =>
  (t_forC (ex := D.int) (e := (eO (eL (eT D.int)))) (s0 := x5) (rk := (fun v => v)) fin_F (q_R1 (a_p rfl (a_0 k_R1))) (fun x6 : (List (List Int)) => [some (D.int a0), some ((eL (eT D.int)) a1), some ((eL (eT D.int)) x6), none, none, none, none]) (fun (x6 : (List (List Int))) (x7 : Int) => [some (D.int a0), some ((eL (eT D.int)) a1), some ((eL (eT D.int)) x6), some (D.int x7), none, none, none]) rfl (fun _ _ => rfl) (fun x6 x7 =>
  (t_assoc (t_if (evB (ev2 rfl (evSc (evOn (evA rfl rfl) op_lenL) rfl) rfl)) (t_brk rfl)
  (t_nextS (t_forCp (ex := (eT D.int)) (e := (eO (eL (eT D.int)))) (s0 := x6) (rk := (fun v => Ctl.ret v)) fin_L (it_L (e := (eT D.int)) (xs := a1) rfl) (fun x8 : (List (List Int)) => [some (D.int a0), some ((eL (eT D.int)) a1), some ((eL (eT D.int)) x8), some (D.int x7), none, none, none]) (fun (x8 : (List (List Int))) (x9 : (List Int)) => [some (D.int a0), some ((eL (eT D.int)) a1), some ((eL (eT D.int)) x8), some (D.int x7), some ((eT D.int) x9), none, none]) rfl (fun _ _ => rfl) (fun x8 x9 =>
  (t_assoc (t_seq fin_L (fun x13 : (List Int) => [some (D.int a0), some ((eL (eT D.int)) a1), some ((eL (eT D.int)) x8), some (D.int x7), some ((eT D.int) x9), some ((eT D.int) x13), none]) (s_set (e := (eT D.int)) _ (q_on (a_i (rf_lc (q_L (b_iL (q := (eT D.int)) (e := D.int) (q_f2 (b_p rfl (b_p rfl op_ixL))) fun _ => rfl)) (fun x10 : Int => [some (D.int a0), some ((eL (eT D.int)) a1), some ((eL (eT D.int)) x8), some (D.int x7), some ((eT D.int) x9), none, some (D.int x10)]) (fun _ => rfl) (fun x10 => (rf_ok (v := true) rfl)) (fun x10 => (q_f2 (b_p rfl (b_p rfl op_ixT))))) fun x12 => (a_0 (rf_ok rfl)))) fun _ => rfl) fun x13 =>
  (t_assoc (t_seq fin_L (fun x17 : (List (List Int)) => [some (D.int a0), some ((eL (eT D.int)) a1), some ((eL (eT D.int)) x17), some (D.int x7), some ((eT D.int) x9), some ((eT D.int) x13), none]) (s_if (o' := (fun s : (List (List Int)) => Fl.nx [some (D.int a0), some ((eL (eT D.int)) a1), some ((eL (eT D.int)) s), some (D.int x7), some ((eT D.int) x9), some ((eT D.int) x13), none])) (t_if (evNx (evB (ev2 rfl rfl (op_nmemL (e := (eT D.int)) (x := x13) (xs := x8))))) (t_seq fin_S (fun x16 : (List (List Int)) => [some (D.int a0), some ((eL (eT D.int)) a1), some ((eL (eT D.int)) x16), some (D.int x7), some ((eT D.int) x9), some ((eT D.int) x13), none]) (s_app (e := (eT D.int)) (xs := x8) (d := x13) (fun ys : (List (List Int)) => [some (D.int a0), some ((eL (eT D.int)) a1), some ((eL (eT D.int)) ys), some (D.int x7), some ((eT D.int) x9), some ((eT D.int) x13), none]) rfl rfl fun _ => rfl) fun x16 =>
  (t_next rfl))
  (t_nextS (t_next rfl)))) fun x17 =>
  (t_if (evB (ev2 (evSc (evOn (evA rfl rfl) op_lenL) rfl) rfl rfl)) (t_retp rfl rfl)
  (t_nextS (t_next rfl)))))))) (fun x18 =>
  (t_next rfl)) fun _ => rfl))))) (fun x19 =>
  (t_end (t_retF (rf_co (e' := (eO (eL (eT D.int)))) (fun x20 : (List (List Int)) => (some x20)) (q_on (a_p rfl (a_0 op_sortLT))) fun _ => rfl)))) fun _ => rfl)))
def N_frozen_li (a0 : (List Int)) : Res (List Int) :=
  ((lcR a0 (fun x1 => Res.ok true) (fun x1 => (N_frozen_i x1))).bind fun x2 => (Res.ok x2))
theorem nr_frozen_li (n : Nat) (a0 : (List Int)) : Rf (r_frozen (n + 2) [(eL D.int) a0]) (N_frozen_li a0) (eT D.int) :=
  n_runF ((t_ifT (evTr (ev1 rfl (isi2_a isTy_list_lst)) rfl) (t_retF (q_on (a_i (rf_lcp (it_L (e := D.int) (xs := a0) rfl) (fun x1 : Int => [some ((eL D.int) a0), some (D.int x1)]) (fun _ => rfl) (fun x1 => (rf_ok (v := true) rfl)) (fun x1 => (q_on (a_p rfl (a_0 (rf_chk (nr_frozen_i (n + 0) x1) rfl)))))) fun x2 => (a_0 (rf_ok rfl)))))))
def N_frozen_lli (a0 : (List (List Int))) : Res (List (List Int)) :=
  ((lcR a0 (fun x1 => Res.ok true) (fun x1 => (N_frozen_li x1))).bind fun x2 => (Res.ok x2))
theorem nr_frozen_lli (n : Nat) (a0 : (List (List Int))) : Rf (r_frozen (n + 3) [(eL (eL D.int)) a0]) (N_frozen_lli a0) (eT (eT D.int)) :=
  n_runF ((t_ifT (evTr (ev1 rfl (isi2_a isTy_list_lst)) rfl) (t_retF (q_on (a_i (rf_lcp (it_L (e := (eL D.int)) (xs := a0) rfl) (fun x1 : (List Int) => [some ((eL (eL D.int)) a0), some ((eL D.int) x1)]) (fun _ => rfl) (fun x1 => (rf_ok (v := true) rfl)) (fun x1 => (q_on (a_p rfl (a_0 (rf_chk (nr_frozen_li (n + 0) x1) rfl)))))) fun x2 => (a_0 (rf_ok rfl)))))))
theorem n_frozen_lli (a0 : (List (List Int))) : Rf (m_frozen [(eL (eL D.int)) a0]) (N_frozen_lli a0) (eT (eT D.int)) := nr_frozen_lli 3 a0
def N_is_perm_ti_i (a0 : (List Int)) (a1 : Int) : Res Bool :=
  ((N_frozen_ti a0).bind fun x1 =>
  ((if (!decide ((x1.length : Int) = a1)) = true then Res.ok true else (((lcR x1 (fun x2 => Res.ok true) (fun x2 => (Res.ok true))).bind fun x3 => (Res.ok (x3.all id))).bind fun x4 => Res.ok (!x4))).bind fun x6 => if x6 = true then (Res.ok false) else
  ((rngLR a1).bind fun x5 => (Res.ok (decide ((x1.mergeSort leI) = x5))))))
theorem n_is_perm_ti_i (a0 : (List Int)) (a1 : Int) : Rf (m_is_perm [(eT D.int) a0, D.int a1]) (N_is_perm_ti_i a0 a1) D.bl :=
  n_runF ((t_seq fin_F (fun x1 : (List Int) => [some ((eT D.int) x1), some (D.int a1), none]) (s_set (e := (eT D.int)) _ (q_on (a_p rfl (a_0 (rf_chk (n_frozen_ti a0) rfl)))) fun _ => rfl) fun x1 =>
  (t_ifI fin_F (rOr (evB (ev2 (evOn (evA rfl rfl) op_lenT) rfl (op_ne (e := D.int) (x := (x1.length : Int)) (x' := a1)))) (q_Not (b_i (q_Tr (b_iT (q_on (a_i (rf_lcp (it_T (e := D.int) (xs := x1) rfl) (fun x2 : Int => [some ((eT D.int) x1), some (D.int a1), some (D.int x2)]) (fun _ => rfl) (fun x2 => (rf_ok (v := true) rfl)) (fun x2 => (rf_ok (e := D.bl) (evOn (evA rfl rfl) (ev_chk (n_is_number_i x2) rfl))))) fun x3 => (a_0 (rf_ok op_allL)))))) fun _ => rf_ok rfl))) (t_retF (rf_ok (e := D.bl) rfl))
  (t_nextS (t_end (t_retF (q_f2 (b_p (evOn (evA rfl rfl) op_sortT) (b_i (op_listR rfl) fun x5 => (rf_ok (op_eq (e := (eL D.int)) (x := (x1.mergeSort leI)) (x' := x5))))))))))))
def N_checked_steps_i_lli (a0 : Int) (a1 : (List (List Int))) : Res (List (List Int)) :=
  ((N_frozen_lli a1).bind fun x1 =>
  ((forR (σ := Unit) (fun x2 x3 => (((N_is_perm_ti_i x3.2 a0).bind fun x4 => Res.ok (!x4)).bind fun x5 => if x5 = true then (Res.ex "BadStep" [("index", D.int x3.1)]) else
  Res.ok ())) (enumI 0 x1) ()).bind fun x6 =>
  (Res.ok x1)))
theorem n_checked_steps_i_lli (a0 : Int) (a1 : (List (List Int))) : Rf (m_checked_steps [D.int a0, (eL (eL D.int)) a1]) (N_checked_steps_i_lli a0 a1) (eT (eT D.int)) :=
  n_runF ((t_seq fin_F (fun x1 : (List (List Int)) => [some (D.int a0), some ((eT (eT D.int)) x1), none, none]) (s_set (e := (eT (eT D.int))) _ (q_on (a_p rfl (a_0 (rf_chk (n_frozen_lli a1) rfl)))) fun _ => rfl) fun x1 =>
  (t_seq fin_F (fun x6 : Unit => [some (D.int a0), some ((eT (eT D.int)) x1), none, none]) (s_forp (ex := (eP2 D.int (eT D.int))) (s0 := ()) (it_enT (e := (eT D.int)) (xs := x1) rfl) (fun x2 : Unit => [some (D.int a0), some ((eT (eT D.int)) x1), none, none]) (fun (x2 : Unit) (x3 : (Int × (List Int))) => [some (D.int a0), some ((eT (eT D.int)) x1), some (D.int x3.1), some ((eT D.int) x3.2)]) rfl (fun _ _ => rfl) fun x2 x3 =>
  (t_ifI fin_L (q_Not (b_i (q_Tr (b_iT (q_on (a_p rfl (a_p rfl (a_0 (rf_chk (n_is_perm_ti_i x3.2 a0) rfl))))))) fun _ => rf_ok rfl)) (t_raise fin_L (a_p rfl (a_0 (rf_ex rfl))))
  (t_nextS (t_next rfl)))) fun x6 =>
  (t_end (t_retF (rf_ok (e := (eT (eT D.int))) rfl))))))
def N_identity_i (a0 : Int) : Res (List Int) :=
  (rngLR a0)
theorem n_identity_i (a0 : Int) : Rf (m_identity [D.int a0]) (N_identity_i a0) (eT D.int) :=
  n_runF ((t_end (t_retF (op_tupleR rfl))))
def N_composed_ti_ti (a0 : (List Int)) (a1 : (List Int)) : Res (List Int) :=
  ((lcR a0 (fun x1 => Res.ok true) (fun x1 => (ixR a1 x1))).bind fun x2 => (Res.ok x2))
theorem n_composed_ti_ti (a0 : (List Int)) (a1 : (List Int)) : Rf (m_composed [(eT D.int) a0, (eT D.int) a1]) (N_composed_ti_ti a0 a1) (eT D.int) :=
  n_runF ((t_end (t_retF (q_on (a_i (rf_lcp (it_T (e := D.int) (xs := a0) rfl) (fun x1 : Int => [some ((eT D.int) a0), some ((eT D.int) a1), some (D.int x1)]) (fun _ => rfl) (fun x1 => (rf_ok (v := true) rfl)) (fun x1 => (q_f2 (b_p rfl (b_p rfl op_ixT))))) fun x2 => (a_0 (rf_ok rfl)))))))
def N_group_i_lli (a0 : Int) (a1 : (List (List Int))) : Res (List (List Int)) :=
  ((N_checked_steps_i_lli a0 a1).bind fun x1 =>
  (((N_identity_i a0).bind fun x2 => (Res.ok [x2])).bind fun x3 =>
  (((N_identity_i a0).bind fun x4 => (Res.ok true).bind fun x5 => Res.ok [(x4, x5)]).bind fun x6 =>
  (((whileC (σ := ((List (List Int)) × (List ((List Int) × Bool)) × Int)) (β := Unit) (fun x7 => Res.ok (decide (x7.2.2 < (x7.1.length : Int)))) (fun x7 => ((forR (σ := ((List (List Int)) × (List ((List Int) × Bool)))) (fun x9 x10 => (((ixR x9.1 x7.2.2).bind fun x11 => (N_composed_ti_ti x11 x10)).bind fun x12 =>
  ((if (!dhasN x9.2 x12) = true then (((Res.ok true).bind fun x21 => (Res.ok x12).bind fun x22 => dputR x9.2 x22 x21).bind fun x23 =>
  ((appR x9.1 x12).bind fun x24 =>
  Res.ok (x24, x23))) else
  Res.ok (x9.1, x9.2)).bind fun x25 =>
  (if (decide (24 < (x25.1.length : Int))) = true then (Res.ex "TooLarge" [("limit", D.int 24)]) else
  Res.ok (x25.1, x25.2))))) x1 (x7.1, x7.2.1)).bind fun x26 =>
  Res.ok (.go (x26.1, x26.2, (x7.2.2 + 1))))) FUEL (x3, x6, 0)).bind (ctlS (β := Unit))).bind fun x27 =>
  ((sortTR x27.1).bind fun x28 => (Res.ok x28))))))
theorem n_group_i_lli (a0 : Int) (a1 : (List (List Int))) : Rf (m_group [D.int a0, (eL (eL D.int)) a1]) (N_group_i_lli a0 a1) (eT (eT D.int)) :=
  n_runF ((t_seq fin_F (fun x1 : (List (List Int)) => [some (D.int a0), some ((eT (eT D.int)) x1), none, none, none, none, none]) (s_set (e := (eT (eT D.int))) _ (q_on (a_p rfl (a_p rfl (a_0 (rf_chk (n_checked_steps_i_lli a0 a1) rfl))))) fun _ => rfl) fun x1 =>
  (t_seq fin_F (fun x3 : (List (List Int)) => [some (D.int a0), some ((eT (eT D.int)) x1), some ((eL (eT D.int)) x3), none, none, none, none]) (s_set (e := (eL (eT D.int))) _ (q_on (a_i (q_on (a_p rfl (a_0 (rf_chk (n_identity_i a0) rfl)))) fun x2 => (a_0 (rf_ok rfl)))) fun _ => rfl) fun x3 =>
  (t_seq fin_F (fun x6 : (List ((List Int) × Bool)) => [some (D.int a0), some ((eT (eT D.int)) x1), some ((eL (eT D.int)) x3), some ((eDt (kT kI) D.bl) x6), none, none, none]) (s_set (e := (eDt (kT kI) D.bl)) _ (rf_disp1T (kd_T kd_I) (q_on (a_p rfl (a_0 (rf_chk (n_identity_i a0) rfl)))) (rf_ok (e := D.bl) rfl)) fun _ => rfl) fun x6 =>
  (t_seqp [some (D.int a0), some ((eT (eT D.int)) x1), some ((eL (eT D.int)) x3), some ((eDt (kT kI) D.bl) x6), some (D.int 0), none, none] (set_p rfl rfl) (t_seq fin_F (fun x27 : ((List (List Int)) × (List ((List Int) × Bool)) × Int) => [some (D.int a0), some ((eT (eT D.int)) x1), some ((eL (eT D.int)) x27.1), some ((eDt (kT kI) D.bl) x27.2.1), some (D.int x27.2.2), none, none]) (s_while (s0 := (x3, x6, 0)) (fun x7 : ((List (List Int)) × (List ((List Int) × Bool)) × Int) => [some (D.int a0), some ((eT (eT D.int)) x1), some ((eL (eT D.int)) x7.1), some ((eDt (kT kI) D.bl) x7.2.1), some (D.int x7.2.2), none, none]) rfl (fun x7 => (rf_ok (e := fun b => b) (evB (ev2 rfl (evSc (evOn (evA rfl rfl) op_lenL) rfl) rfl)))) fun x7 =>
  (t_assoc (t_seq fin_L (fun x26 : ((List (List Int)) × (List ((List Int) × Bool))) => [some (D.int a0), some ((eT (eT D.int)) x1), some ((eL (eT D.int)) x26.1), some ((eDt (kT kI) D.bl) x26.2), some (D.int x7.2.2), none, none]) (s_forp (ex := (eT D.int)) (s0 := (x7.1, x7.2.1)) (it_T (e := (eT D.int)) (xs := x1) rfl) (fun x9 : ((List (List Int)) × (List ((List Int) × Bool))) => [some (D.int a0), some ((eT (eT D.int)) x1), some ((eL (eT D.int)) x9.1), some ((eDt (kT kI) D.bl) x9.2), some (D.int x7.2.2), none, none]) (fun (x9 : ((List (List Int)) × (List ((List Int) × Bool)))) (x10 : (List Int)) => [some (D.int a0), some ((eT (eT D.int)) x1), some ((eL (eT D.int)) x9.1), some ((eDt (kT kI) D.bl) x9.2), some (D.int x7.2.2), some ((eT D.int) x10), none]) rfl (fun _ _ => rfl) fun x9 x10 =>
  (t_assoc (t_seq fin_L (fun x12 : (List Int) => [some (D.int a0), some ((eT (eT D.int)) x1), some ((eL (eT D.int)) x9.1), some ((eDt (kT kI) D.bl) x9.2), some (D.int x7.2.2), some ((eT D.int) x10), some ((eT D.int) x12)]) (s_set (e := (eT D.int)) _ (q_on (a_i (q_f2 (b_p rfl (b_p rfl op_ixL))) fun x11 => (a_p rfl (a_0 (rf_chk (n_composed_ti_ti x11 x10) rfl))))) fun _ => rfl) fun x12 =>
  (t_assoc (t_seq fin_L (fun x25 : ((List (List Int)) × (List ((List Int) × Bool))) => [some (D.int a0), some ((eT (eT D.int)) x1), some ((eL (eT D.int)) x25.1), some ((eDt (kT kI) D.bl) x25.2), some (D.int x7.2.2), some ((eT D.int) x10), some ((eT D.int) x12)]) (s_if (o' := (fun s : ((List (List Int)) × (List ((List Int) × Bool))) => Fl.nx [some (D.int a0), some ((eT (eT D.int)) x1), some ((eL (eT D.int)) s.1), some ((eDt (kT kI) D.bl) s.2), some (D.int x7.2.2), some ((eT D.int) x10), some ((eT D.int) x12)])) (t_if (evNx (evB (ev2 rfl rfl (op_dhasTN (kd_T kd_I) (inj_kT inj_kI))))) (t_assoc (t_seq fin_S (fun x23 : (List ((List Int) × Bool)) => [some (D.int a0), some ((eT (eT D.int)) x1), some ((eL (eT D.int)) x9.1), some ((eDt (kT kI) D.bl) x23), some (D.int x7.2.2), some ((eT D.int) x10), some ((eT D.int) x12)]) (s_putT (kd_T kd_I) (inj_kT inj_kI) (e := D.bl) (xs := x9.2) (fun ys : (List ((List Int) × Bool)) => [some (D.int a0), some ((eT (eT D.int)) x1), some ((eL (eT D.int)) x9.1), some ((eDt (kT kI) D.bl) ys), some (D.int x7.2.2), some ((eT D.int) x10), some ((eT D.int) x12)]) rfl (rf_ok (e := D.bl) rfl) (rf_ok (e := (eT D.int)) rfl) fun _ => rfl) fun x23 =>
  (t_seq fin_S (fun x24 : (List (List Int)) => [some (D.int a0), some ((eT (eT D.int)) x1), some ((eL (eT D.int)) x24), some ((eDt (kT kI) D.bl) x23), some (D.int x7.2.2), some ((eT D.int) x10), some ((eT D.int) x12)]) (s_app (e := (eT D.int)) (xs := x9.1) (d := x12) (fun ys : (List (List Int)) => [some (D.int a0), some ((eT (eT D.int)) x1), some ((eL (eT D.int)) ys), some ((eDt (kT kI) D.bl) x23), some (D.int x7.2.2), some ((eT D.int) x10), some ((eT D.int) x12)]) rfl rfl fun _ => rfl) fun x24 =>
  (t_next rfl))))
  (t_nextS (t_next rfl)))) fun x25 =>
  (t_if (evB (ev2 (evSc (evOn (evA rfl rfl) op_lenL) rfl) rfl rfl)) (t_raise fin_L (a_p rfl (a_0 (rf_ex rfl))))
  (t_nextS (t_next rfl)))))))) fun x26 =>
  (t_seqp [some (D.int a0), some ((eT (eT D.int)) x1), some ((eL (eT D.int)) x26.1), some ((eDt (kT kI) D.bl) x26.2), some (D.int (x7.2.2 + 1)), none, none] (set_p rfl rfl) (t_next rfl))))) fun x27 =>
  (t_end (t_retF (q_on (a_i (q_on (a_p rfl (a_0 op_sortLT))) fun x28 => (a_0 (rf_ok rfl))))))))))))
def N_node_numbers_tti (a0 : (List (List Int))) : Res (List ((List Int) × Int)) :=
  (dcR (enumI 0 a0) (fun x1 => Res.ok true) (fun x1 => (Res.ok x1.2)) (fun x1 => (Res.ok x1.1)))
theorem n_node_numbers_tti (a0 : (List (List Int))) : Rf (m_node_numbers [(eT (eT D.int)) a0]) (N_node_numbers_tti a0) (eDt (kT kI) D.int) :=
  n_runF ((t_end (t_retF (rf_dcpT (kd_T kd_I) (inj_kT inj_kI) (it_enT (e := (eT D.int)) (xs := a0) rfl) (fun x1 : (Int × (List Int)) => [some ((eT (eT D.int)) a0), some (D.int x1.1), some ((eT D.int) x1.2)]) (fun _ => rfl) (fun x1 => (rf_ok (v := true) rfl)) (fun x1 => (rf_ok (e := (eT D.int)) rfl)) (fun x1 => (rf_ok (e := D.int) rfl))))))
def N_step_net_i_lli (a0 : Int) (a1 : (List (List Int))) : Res (Int × (List (Int × Int)) × (List (List Int)) × (List (Int × Int))) :=
  ((N_group_i_lli a0 a1).bind fun x1 =>
  ((N_node_numbers_tti x1).bind fun x2 =>
  ((forR (σ := (List (Int × Int))) (fun x3 x4 => (((N_frozen_lli a1).bind fun x21 => (forR (σ := (List (Int × Int))) (fun x5 x6 => ((N_composed_ti_ti x4 x6).bind fun x7 =>
  ((if (!decide (x7 = x4)) = true then ((((dgetN x2 x4).bind fun x16 => ((dgetN x2 x7).bind fun x17 => (Res.ok (x16, x17)))).bind fun x18 => appR x5 x18).bind fun x19 =>
  Res.ok x19) else
  Res.ok x5).bind fun x20 =>
  Res.ok x20))) x21 x3)).bind fun x22 =>
  Res.ok x22)) x1 []).bind fun x23 =>
  (N_Net_init_i_lpiiq (x1.length : Int) x23))))
theorem n_step_net_i_lli (a0 : Int) (a1 : (List (List Int))) : Rf (m_step_net [D.int a0, (eL (eL D.int)) a1]) (N_step_net_i_lli a0 a1) (eOb4 "Net" "size" "links" "near" "lane_row" D.int (eT (eP2 D.int D.int)) (eT (eT D.int)) (eT (eP2 D.int D.int))) :=
  n_runF ((t_seq fin_F (fun x1 : (List (List Int)) => [some (D.int a0), some ((eL (eL D.int)) a1), some ((eT (eT D.int)) x1), none, none, none, none, none]) (s_set (e := (eT (eT D.int))) _ (q_on (a_p rfl (a_p rfl (a_0 (rf_chk (n_group_i_lli a0 a1) rfl))))) fun _ => rfl) fun x1 =>
  (t_seq fin_F (fun x2 : (List ((List Int) × Int)) => [some (D.int a0), some ((eL (eL D.int)) a1), some ((eT (eT D.int)) x1), some ((eDt (kT kI) D.int) x2), none, none, none, none]) (s_set (e := (eDt (kT kI) D.int)) _ (q_on (a_p rfl (a_0 (rf_chk (n_node_numbers_tti x1) rfl)))) fun _ => rfl) fun x2 =>
  (t_seqp [some (D.int a0), some ((eL (eL D.int)) a1), some ((eT (eT D.int)) x1), some ((eDt (kT kI) D.int) x2), some ((eL (eP2 D.int D.int)) []), none, none, none] (set_p rfl rfl) (t_seq fin_F (fun x23 : (List (Int × Int)) => [some (D.int a0), some ((eL (eL D.int)) a1), some ((eT (eT D.int)) x1), some ((eDt (kT kI) D.int) x2), some ((eL (eP2 D.int D.int)) x23), none, none, none]) (s_forp (ex := (eT D.int)) (s0 := []) (it_T (e := (eT D.int)) (xs := x1) rfl) (fun x3 : (List (Int × Int)) => [some (D.int a0), some ((eL (eL D.int)) a1), some ((eT (eT D.int)) x1), some ((eDt (kT kI) D.int) x2), some ((eL (eP2 D.int D.int)) x3), none, none, none]) (fun (x3 : (List (Int × Int))) (x4 : (List Int)) => [some (D.int a0), some ((eL (eL D.int)) a1), some ((eT (eT D.int)) x1), some ((eDt (kT kI) D.int) x2), some ((eL (eP2 D.int D.int)) x3), some ((eT D.int) x4), none, none]) rfl (fun _ _ => rfl) fun x3 x4 =>
  (t_seq fin_L (fun x22 : (List (Int × Int)) => [some (D.int a0), some ((eL (eL D.int)) a1), some ((eT (eT D.int)) x1), some ((eDt (kT kI) D.int) x2), some ((eL (eP2 D.int D.int)) x22), some ((eT D.int) x4), none, none]) (s_for (ex := (eT D.int)) (s0 := x3) (q_L (b_iL (q := (eT (eT D.int))) (e := (eT D.int)) (q_on (a_p rfl (a_0 (rf_chk (n_frozen_lli a1) rfl)))) fun _ => rfl)) (fun x5 : (List (Int × Int)) => [some (D.int a0), some ((eL (eL D.int)) a1), some ((eT (eT D.int)) x1), some ((eDt (kT kI) D.int) x2), some ((eL (eP2 D.int D.int)) x5), some ((eT D.int) x4), none, none]) (fun (x5 : (List (Int × Int))) (x6 : (List Int)) => [some (D.int a0), some ((eL (eL D.int)) a1), some ((eT (eT D.int)) x1), some ((eDt (kT kI) D.int) x2), some ((eL (eP2 D.int D.int)) x5), some ((eT D.int) x4), some ((eT D.int) x6), none]) rfl (fun _ _ => rfl) fun x5 x6 =>
  (t_assoc (t_seq fin_L (fun x7 : (List Int) => [some (D.int a0), some ((eL (eL D.int)) a1), some ((eT (eT D.int)) x1), some ((eDt (kT kI) D.int) x2), some ((eL (eP2 D.int D.int)) x5), some ((eT D.int) x4), some ((eT D.int) x6), some ((eT D.int) x7)]) (s_set (e := (eT D.int)) _ (q_on (a_p rfl (a_p rfl (a_0 (rf_chk (n_composed_ti_ti x4 x6) rfl))))) fun _ => rfl) fun x7 =>
  (t_seq fin_L (fun x20 : (List (Int × Int)) => [some (D.int a0), some ((eL (eL D.int)) a1), some ((eT (eT D.int)) x1), some ((eDt (kT kI) D.int) x2), some ((eL (eP2 D.int D.int)) x20), some ((eT D.int) x4), some ((eT D.int) x6), some ((eT D.int) x7)]) (s_if (o' := (fun s : (List (Int × Int)) => Fl.nx [some (D.int a0), some ((eL (eL D.int)) a1), some ((eT (eT D.int)) x1), some ((eDt (kT kI) D.int) x2), some ((eL (eP2 D.int D.int)) s), some ((eT D.int) x4), some ((eT D.int) x6), some ((eT D.int) x7)])) (t_if (evB (ev2 rfl rfl (op_ne (e := (eT D.int)) (x := x7) (x' := x4)))) (t_seq fin_S (fun x19 : (List (Int × Int)) => [some (D.int a0), some ((eL (eL D.int)) a1), some ((eT (eT D.int)) x1), some ((eDt (kT kI) D.int) x2), some ((eL (eP2 D.int D.int)) x19), some ((eT D.int) x4), some ((eT D.int) x6), some ((eT D.int) x7)]) (s_appI (e := (eP2 D.int D.int)) (xs := x5) (fun ys : (List (Int × Int)) => [some (D.int a0), some ((eL (eL D.int)) a1), some ((eT (eT D.int)) x1), some ((eDt (kT kI) D.int) x2), some ((eL (eP2 D.int D.int)) ys), some ((eT D.int) x4), some ((eT D.int) x6), some ((eT D.int) x7)]) rfl (q_on (a_i (q_f2 (b_p rfl (b_p rfl (op_dgetT (kd_T kd_I) (inj_kT inj_kI))))) fun x16 => (a_i (q_f2 (b_p rfl (b_p rfl (op_dgetT (kd_T kd_I) (inj_kT inj_kI))))) fun x17 => (a_0 (rf_ok rfl))))) fun _ => rfl) fun x19 =>
  (t_next rfl))
  (t_nextS (t_next rfl)))) fun x20 =>
  (t_next rfl))))) fun x22 =>
  (t_next rfl))) fun x23 =>
  (t_end (t_retF (q_on (a_p (evOn (evA rfl rfl) op_lenT) (a_p rfl (a_0 (rf_chk (n_Net_init_i_lpiiq (x1.length : Int) x23) rfl))))))))))))
def N_step_turns_i_lli (a0 : Int) (a1 : (List (List Int))) : Res (List (List Int)) :=
  ((N_group_i_lli a0 a1).bind fun x1 =>
  ((N_node_numbers_tti x1).bind fun x2 =>
  ((lcR x1 (fun x3 => Res.ok true) (fun x3 => ((lcR x1 (fun x4 => Res.ok true) (fun x4 => ((N_composed_ti_ti x3 x4).bind fun x5 => (dgetN x2 x5)))).bind fun x6 => (Res.ok x6)))).bind fun x7 => (Res.ok x7))))
theorem n_step_turns_i_lli (a0 : Int) (a1 : (List (List Int))) : Rf (m_step_turns [D.int a0, (eL (eL D.int)) a1]) (N_step_turns_i_lli a0 a1) (eT (eT D.int)) :=
  n_runF ((t_seq fin_F (fun x1 : (List (List Int)) => [some (D.int a0), some ((eL (eL D.int)) a1), some ((eT (eT D.int)) x1), none, none, none]) (s_set (e := (eT (eT D.int))) _ (q_on (a_p rfl (a_p rfl (a_0 (rf_chk (n_group_i_lli a0 a1) rfl))))) fun _ => rfl) fun x1 =>
  (t_seq fin_F (fun x2 : (List ((List Int) × Int)) => [some (D.int a0), some ((eL (eL D.int)) a1), some ((eT (eT D.int)) x1), some ((eDt (kT kI) D.int) x2), none, none]) (s_set (e := (eDt (kT kI) D.int)) _ (q_on (a_p rfl (a_0 (rf_chk (n_node_numbers_tti x1) rfl)))) fun _ => rfl) fun x2 =>
  (t_end (t_retF (q_on (a_i (rf_lcp (it_T (e := (eT D.int)) (xs := x1) rfl) (fun x3 : (List Int) => [some (D.int a0), some ((eL (eL D.int)) a1), some ((eT (eT D.int)) x1), some ((eDt (kT kI) D.int) x2), some ((eT D.int) x3), none]) (fun _ => rfl) (fun x3 => (rf_ok (v := true) rfl)) (fun x3 => (q_on (a_i (rf_lcp (it_T (e := (eT D.int)) (xs := x1) rfl) (fun x4 : (List Int) => [some (D.int a0), some ((eL (eL D.int)) a1), some ((eT (eT D.int)) x1), some ((eDt (kT kI) D.int) x2), some ((eT D.int) x3), some ((eT D.int) x4)]) (fun _ => rfl) (fun x4 => (rf_ok (v := true) rfl)) (fun x4 => (q_f2 (b_p rfl (b_i (q_on (a_p rfl (a_p rfl (a_0 (rf_chk (n_composed_ti_ti x3 x4) rfl))))) fun x5 => (op_dgetT (kd_T kd_I) (inj_kT inj_kI))))))) fun x6 => (a_0 (rf_ok rfl)))))) fun x7 => (a_0 (rf_ok rfl)))))))))
def N_law_asked_i_i_lli (a0 : Int) (a1 : Int) (a2 : (List (List Int))) : Res D :=
  (tryR al_BookError
  ((if (decide (a0 = 1)) = true then ((((N_step_net_i_lli a1 a2).bind fun x1 => (Res.ok x1.1)).bind fun x2 => (Res.ok ((Str.ofString "size"), x2))).bind fun x3 => Res.ok ((eH2 D.str D.int) x3)) else
  (if (decide (a0 = 2)) = true then ((((N_step_turns_i_lli a1 a2).bind fun x4 => (Res.ok (x4.length : Int))).bind fun x5 => (Res.ok ((Str.ofString "size"), x5))).bind fun x6 => Res.ok ((eH2 D.str D.int) x6)) else
  (((N_group_i_lli a1 a2).bind fun x7 => (Res.ok ((Str.ofString "made"), x7))).bind fun x8 => Res.ok ((eH2 D.str (eT (eT D.int))) x8)))))
  fun x9 x10 =>
  (((askR al_BadStep x9).bind fun x12 => ((askR al_TooLarge x9).bind fun x13 => ((askR al_BadSize x9).bind fun x14 => (((askR al_ValueError x9).bind fun x11 => Res.ok (!x11)).bind fun x15 => (Res.ok [x12, x13, x14, x15]))))).bind fun x16 =>
  (if (decide (x16 = [true, false, false, false])) = true then (((fldR ["BadStep", "BadLink"] "index" x9 x10).bind fun x17 => (Res.ok ((Str.ofString "step"), x17))).bind fun x18 => Res.ok ((eH2 D.str D.int) x18)) else
  (if (decide (x16 = [false, true, false, false])) = true then (((fldR ["TooLarge"] "limit" x9 x10).bind fun x19 => (Res.ok ((Str.ofString "large"), x19))).bind fun x20 => Res.ok ((eH2 D.str D.int) x20)) else
  (Res.ok ((eL D.str) [(Str.ofString "other")]))))))
theorem n_law_asked_i_i_lli (a0 : Int) (a1 : Int) (a2 : (List (List Int))) : Rf (m_law_asked [D.int a0, D.int a1, (eL (eL D.int)) a2]) (N_law_asked_i_i_lli a0 a1 a2) (fun d : D => d) :=
  n_runF ((t_tryF
  (t_if (evB (ev2 rfl rfl (op_eq (e := D.int) (x := a0) (x' := 1)))) (t_retF (rf_co (e' := (fun d : D => d)) (fun x3 : (Str × Int) => ((eH2 D.str D.int) x3)) (q_on (a_p rfl (a_i (q_f1 (b_i (q_on (a_p rfl (a_p rfl (a_0 (rf_chk (n_step_net_i_lli a1 a2) rfl))))) fun x1 => (rf_ok fld_hit))) fun x2 => (a_0 (rf_ok rfl))))) fun _ => rfl))
  (t_nextS (t_if (evB (ev2 rfl rfl (op_eq (e := D.int) (x := a0) (x' := 2)))) (t_retF (rf_co (e' := (fun d : D => d)) (fun x6 : (Str × Int) => ((eH2 D.str D.int) x6)) (q_on (a_p rfl (a_i (q_on (a_i (q_on (a_p rfl (a_p rfl (a_0 (rf_chk (n_step_turns_i_lli a1 a2) rfl))))) fun x4 => (a_0 (rf_ok op_lenT)))) fun x5 => (a_0 (rf_ok rfl))))) fun _ => rfl))
  (t_nextS (t_end (t_retF (rf_co (e' := (fun d : D => d)) (fun x8 : (Str × (List (List Int))) => ((eH2 D.str (eT (eT D.int))) x8)) (q_on (a_p rfl (a_i (q_on (a_p rfl (a_p rfl (a_0 (rf_chk (n_group_i_lli a1 a2) rfl))))) fun x7 => (a_0 (rf_ok rfl))))) fun _ => rfl)))))))
  fun x9 x10 =>
  (t_seq fin_F (fun x16 : (List Bool) => [none, none, none, some (D.exc x9 (x10.map (·.1)) (x10.map (·.2))), some ((eL D.bl) x16)]) (s_set (e := (eL D.bl)) _ (q_on (a_i (e_isE rfl) fun x12 => (a_i (e_isE rfl) fun x13 => (a_i (e_isE rfl) fun x14 => (a_i (q_Bv (rf_bv (q_Not (b_i (q_B (b_iB (e_isE rfl))) fun _ => rf_ok rfl)))) fun x15 => (a_0 (rf_ok rfl))))))) fun _ => rfl) fun x16 =>
  (t_if (evNx (evB (ev2 rfl rfl (op_eq (e := (eL D.bl)) (x := x16) (x' := [true, false, false, false]))))) (t_retF (rf_co (e' := (fun d : D => d)) (fun x18 : (Str × Int) => ((eH2 D.str D.int) x18)) (q_on (a_p rfl (a_i (e_fldE rfl) fun x17 => (a_0 (rf_ok rfl))))) fun _ => rfl))
  (t_nextS (t_if (evNx (evB (ev2 rfl rfl (op_eq (e := (eL D.bl)) (x := x16) (x' := [false, true, false, false]))))) (t_retF (rf_co (e' := (fun d : D => d)) (fun x20 : (Str × Int) => ((eH2 D.str D.int) x20)) (q_on (a_p rfl (a_i (e_fldE rfl) fun x19 => (a_0 (rf_ok rfl))))) fun _ => rfl))
  (t_nextS (t_end (t_retF (rf_ok (e := (fun d : D => d)) rfl))))))))))
def N_checked_steps_i_lti (a0 : Int) (a1 : (List (List Int))) : Res (List (List Int)) :=
  ((N_frozen_lti a1).bind fun x1 =>
  ((forR (σ := Unit) (fun x2 x3 => (((N_is_perm_ti_i x3.2 a0).bind fun x4 => Res.ok (!x4)).bind fun x5 => if x5 = true then (Res.ex "BadStep" [("index", D.int x3.1)]) else
  Res.ok ())) (enumI 0 x1) ()).bind fun x6 =>
  (Res.ok x1)))
theorem n_checked_steps_i_lti (a0 : Int) (a1 : (List (List Int))) : Rf (m_checked_steps [D.int a0, (eL (eT D.int)) a1]) (N_checked_steps_i_lti a0 a1) (eT (eT D.int)) :=
  n_runF ((t_seq fin_F (fun x1 : (List (List Int)) => [some (D.int a0), some ((eT (eT D.int)) x1), none, none]) (s_set (e := (eT (eT D.int))) _ (q_on (a_p rfl (a_0 (rf_chk (n_frozen_lti a1) rfl)))) fun _ => rfl) fun x1 =>
  (t_seq fin_F (fun x6 : Unit => [some (D.int a0), some ((eT (eT D.int)) x1), none, none]) (s_forp (ex := (eP2 D.int (eT D.int))) (s0 := ()) (it_enT (e := (eT D.int)) (xs := x1) rfl) (fun x2 : Unit => [some (D.int a0), some ((eT (eT D.int)) x1), none, none]) (fun (x2 : Unit) (x3 : (Int × (List Int))) => [some (D.int a0), some ((eT (eT D.int)) x1), some (D.int x3.1), some ((eT D.int) x3.2)]) rfl (fun _ _ => rfl) fun x2 x3 =>
  (t_ifI fin_L (q_Not (b_i (q_Tr (b_iT (q_on (a_p rfl (a_p rfl (a_0 (rf_chk (n_is_perm_ti_i x3.2 a0) rfl))))))) fun _ => rf_ok rfl)) (t_raise fin_L (a_p rfl (a_0 (rf_ex rfl))))
  (t_nextS (t_next rfl)))) fun x6 =>
  (t_end (t_retF (rf_ok (e := (eT (eT D.int))) rfl))))))
def N_group_i_lti (a0 : Int) (a1 : (List (List Int))) : Res (List (List Int)) :=
  ((N_checked_steps_i_lti a0 a1).bind fun x1 =>
  (((N_identity_i a0).bind fun x2 => (Res.ok [x2])).bind fun x3 =>
  (((N_identity_i a0).bind fun x4 => (Res.ok true).bind fun x5 => Res.ok [(x4, x5)]).bind fun x6 =>
  (((whileC (σ := ((List (List Int)) × (List ((List Int) × Bool)) × Int)) (β := Unit) (fun x7 => Res.ok (decide (x7.2.2 < (x7.1.length : Int)))) (fun x7 => ((forR (σ := ((List (List Int)) × (List ((List Int) × Bool)))) (fun x9 x10 => (((ixR x9.1 x7.2.2).bind fun x11 => (N_composed_ti_ti x11 x10)).bind fun x12 =>
  ((if (!dhasN x9.2 x12) = true then (((Res.ok true).bind fun x21 => (Res.ok x12).bind fun x22 => dputR x9.2 x22 x21).bind fun x23 =>
  ((appR x9.1 x12).bind fun x24 =>
  Res.ok (x24, x23))) else
  Res.ok (x9.1, x9.2)).bind fun x25 =>
  (if (decide (24 < (x25.1.length : Int))) = true then (Res.ex "TooLarge" [("limit", D.int 24)]) else
  Res.ok (x25.1, x25.2))))) x1 (x7.1, x7.2.1)).bind fun x26 =>
  Res.ok (.go (x26.1, x26.2, (x7.2.2 + 1))))) FUEL (x3, x6, 0)).bind (ctlS (β := Unit))).bind fun x27 =>
  ((sortTR x27.1).bind fun x28 => (Res.ok x28))))))
theorem n_group_i_lti (a0 : Int) (a1 : (List (List Int))) : Rf (m_group [D.int a0, (eL (eT D.int)) a1]) (N_group_i_lti a0 a1) (eT (eT D.int)) :=
  n_runF ((t_seq fin_F (fun x1 : (List (List Int)) => [some (D.int a0), some ((eT (eT D.int)) x1), none, none, none, none, none]) (s_set (e := (eT (eT D.int))) _ (q_on (a_p rfl (a_p rfl (a_0 (rf_chk (n_checked_steps_i_lti a0 a1) rfl))))) fun _ => rfl) fun x1 =>
  (t_seq fin_F (fun x3 : (List (List Int)) => [some (D.int a0), some ((eT (eT D.int)) x1), some ((eL (eT D.int)) x3), none, none, none, none]) (s_set (e := (eL (eT D.int))) _ (q_on (a_i (q_on (a_p rfl (a_0 (rf_chk (n_identity_i a0) rfl)))) fun x2 => (a_0 (rf_ok rfl)))) fun _ => rfl) fun x3 =>
  (t_seq fin_F (fun x6 : (List ((List Int) × Bool)) => [some (D.int a0), some ((eT (eT D.int)) x1), some ((eL (eT D.int)) x3), some ((eDt (kT kI) D.bl) x6), none, none, none]) (s_set (e := (eDt (kT kI) D.bl)) _ (rf_disp1T (kd_T kd_I) (q_on (a_p rfl (a_0 (rf_chk (n_identity_i a0) rfl)))) (rf_ok (e := D.bl) rfl)) fun _ => rfl) fun x6 =>
  (t_seqp [some (D.int a0), some ((eT (eT D.int)) x1), some ((eL (eT D.int)) x3), some ((eDt (kT kI) D.bl) x6), some (D.int 0), none, none] (set_p rfl rfl) (t_seq fin_F (fun x27 : ((List (List Int)) × (List ((List Int) × Bool)) × Int) => [some (D.int a0), some ((eT (eT D.int)) x1), some ((eL (eT D.int)) x27.1), some ((eDt (kT kI) D.bl) x27.2.1), some (D.int x27.2.2), none, none]) (s_while (s0 := (x3, x6, 0)) (fun x7 : ((List (List Int)) × (List ((List Int) × Bool)) × Int) => [some (D.int a0), some ((eT (eT D.int)) x1), some ((eL (eT D.int)) x7.1), some ((eDt (kT kI) D.bl) x7.2.1), some (D.int x7.2.2), none, none]) rfl (fun x7 => (rf_ok (e := fun b => b) (evB (ev2 rfl (evSc (evOn (evA rfl rfl) op_lenL) rfl) rfl)))) fun x7 =>
  (t_assoc (t_seq fin_L (fun x26 : ((List (List Int)) × (List ((List Int) × Bool))) => [some (D.int a0), some ((eT (eT D.int)) x1), some ((eL (eT D.int)) x26.1), some ((eDt (kT kI) D.bl) x26.2), some (D.int x7.2.2), none, none]) (s_forp (ex := (eT D.int)) (s0 := (x7.1, x7.2.1)) (it_T (e := (eT D.int)) (xs := x1) rfl) (fun x9 : ((List (List Int)) × (List ((List Int) × Bool))) => [some (D.int a0), some ((eT (eT D.int)) x1), some ((eL (eT D.int)) x9.1), some ((eDt (kT kI) D.bl) x9.2), some (D.int x7.2.2), none, none]) (fun (x9 : ((List (List Int)) × (List ((List Int) × Bool)))) (x10 : (List Int)) => [some (D.int a0), some ((eT (eT D.int)) x1), some ((eL (eT D.int)) x9.1), some ((eDt (kT kI) D.bl) x9.2), some (D.int x7.2.2), some ((eT D.int) x10), none]) rfl (fun _ _ => rfl) fun x9 x10 =>
  (t_assoc (t_seq fin_L (fun x12 : (List Int) => [some (D.int a0), some ((eT (eT D.int)) x1), some ((eL (eT D.int)) x9.1), some ((eDt (kT kI) D.bl) x9.2), some (D.int x7.2.2), some ((eT D.int) x10), some ((eT D.int) x12)]) (s_set (e := (eT D.int)) _ (q_on (a_i (q_f2 (b_p rfl (b_p rfl op_ixL))) fun x11 => (a_p rfl (a_0 (rf_chk (n_composed_ti_ti x11 x10) rfl))))) fun _ => rfl) fun x12 =>
  (t_assoc (t_seq fin_L (fun x25 : ((List (List Int)) × (List ((List Int) × Bool))) => [some (D.int a0), some ((eT (eT D.int)) x1), some ((eL (eT D.int)) x25.1), some ((eDt (kT kI) D.bl) x25.2), some (D.int x7.2.2), some ((eT D.int) x10), some ((eT D.int) x12)]) (s_if (o' := (fun s : ((List (List Int)) × (List ((List Int) × Bool))) => Fl.nx [some (D.int a0), some ((eT (eT D.int)) x1), some ((eL (eT D.int)) s.1), some ((eDt (kT kI) D.bl) s.2), some (D.int x7.2.2), some ((eT D.int) x10), some ((eT D.int) x12)])) (t_if (evNx (evB (ev2 rfl rfl (op_dhasTN (kd_T kd_I) (inj_kT inj_kI))))) (t_assoc (t_seq fin_S (fun x23 : (List ((List Int) × Bool)) => [some (D.int a0), some ((eT (eT D.int)) x1), some ((eL (eT D.int)) x9.1), some ((eDt (kT kI) D.bl) x23), some (D.int x7.2.2), some ((eT D.int) x10), some ((eT D.int) x12)]) (s_putT (kd_T kd_I) (inj_kT inj_kI) (e := D.bl) (xs := x9.2) (fun ys : (List ((List Int) × Bool)) => [some (D.int a0), some ((eT (eT D.int)) x1), some ((eL (eT D.int)) x9.1), some ((eDt (kT kI) D.bl) ys), some (D.int x7.2.2), some ((eT D.int) x10), some ((eT D.int) x12)]) rfl (rf_ok (e := D.bl) rfl) (rf_ok (e := (eT D.int)) rfl) fun _ => rfl) fun x23 =>
  (t_seq fin_S (fun x24 : (List (List Int)) => [some (D.int a0), some ((eT (eT D.int)) x1), some ((eL (eT D.int)) x24), some ((eDt (kT kI) D.bl) x23), some (D.int x7.2.2), some ((eT D.int) x10), some ((eT D.int) x12)]) (s_app (e := (eT D.int)) (xs := x9.1) (d := x12) (fun ys : (List (List Int)) => [some (D.int a0), some ((eT (eT D.int)) x1), some ((eL (eT D.int)) ys), some ((eDt (kT kI) D.bl) x23), some (D.int x7.2.2), some ((eT D.int) x10), some ((eT D.int) x12)]) rfl rfl fun _ => rfl) fun x24 =>
  (t_next rfl))))
  (t_nextS (t_next rfl)))) fun x25 =>
  (t_if (evB (ev2 (evSc (evOn (evA rfl rfl) op_lenL) rfl) rfl rfl)) (t_raise fin_L (a_p rfl (a_0 (rf_ex rfl))))
  (t_nextS (t_next rfl)))))))) fun x26 =>
  (t_seqp [some (D.int a0), some ((eT (eT D.int)) x1), some ((eL (eT D.int)) x26.1), some ((eDt (kT kI) D.bl) x26.2), some (D.int (x7.2.2 + 1)), none, none] (set_p rfl rfl) (t_next rfl))))) fun x27 =>
  (t_end (t_retF (q_on (a_i (q_on (a_p rfl (a_0 op_sortLT))) fun x28 => (a_0 (rf_ok rfl))))))))))))
def N_step_net_i_lti (a0 : Int) (a1 : (List (List Int))) : Res (Int × (List (Int × Int)) × (List (List Int)) × (List (Int × Int))) :=
  ((N_group_i_lti a0 a1).bind fun x1 =>
  ((N_node_numbers_tti x1).bind fun x2 =>
  ((forR (σ := (List (Int × Int))) (fun x3 x4 => (((N_frozen_lti a1).bind fun x21 => (forR (σ := (List (Int × Int))) (fun x5 x6 => ((N_composed_ti_ti x4 x6).bind fun x7 =>
  ((if (!decide (x7 = x4)) = true then ((((dgetN x2 x4).bind fun x16 => ((dgetN x2 x7).bind fun x17 => (Res.ok (x16, x17)))).bind fun x18 => appR x5 x18).bind fun x19 =>
  Res.ok x19) else
  Res.ok x5).bind fun x20 =>
  Res.ok x20))) x21 x3)).bind fun x22 =>
  Res.ok x22)) x1 []).bind fun x23 =>
  (N_Net_init_i_lpiiq (x1.length : Int) x23))))
theorem n_step_net_i_lti (a0 : Int) (a1 : (List (List Int))) : Rf (m_step_net [D.int a0, (eL (eT D.int)) a1]) (N_step_net_i_lti a0 a1) (eOb4 "Net" "size" "links" "near" "lane_row" D.int (eT (eP2 D.int D.int)) (eT (eT D.int)) (eT (eP2 D.int D.int))) :=
  n_runF ((t_seq fin_F (fun x1 : (List (List Int)) => [some (D.int a0), some ((eL (eT D.int)) a1), some ((eT (eT D.int)) x1), none, none, none, none, none]) (s_set (e := (eT (eT D.int))) _ (q_on (a_p rfl (a_p rfl (a_0 (rf_chk (n_group_i_lti a0 a1) rfl))))) fun _ => rfl) fun x1 =>
  (t_seq fin_F (fun x2 : (List ((List Int) × Int)) => [some (D.int a0), some ((eL (eT D.int)) a1), some ((eT (eT D.int)) x1), some ((eDt (kT kI) D.int) x2), none, none, none, none]) (s_set (e := (eDt (kT kI) D.int)) _ (q_on (a_p rfl (a_0 (rf_chk (n_node_numbers_tti x1) rfl)))) fun _ => rfl) fun x2 =>
  (t_seqp [some (D.int a0), some ((eL (eT D.int)) a1), some ((eT (eT D.int)) x1), some ((eDt (kT kI) D.int) x2), some ((eL (eP2 D.int D.int)) []), none, none, none] (set_p rfl rfl) (t_seq fin_F (fun x23 : (List (Int × Int)) => [some (D.int a0), some ((eL (eT D.int)) a1), some ((eT (eT D.int)) x1), some ((eDt (kT kI) D.int) x2), some ((eL (eP2 D.int D.int)) x23), none, none, none]) (s_forp (ex := (eT D.int)) (s0 := []) (it_T (e := (eT D.int)) (xs := x1) rfl) (fun x3 : (List (Int × Int)) => [some (D.int a0), some ((eL (eT D.int)) a1), some ((eT (eT D.int)) x1), some ((eDt (kT kI) D.int) x2), some ((eL (eP2 D.int D.int)) x3), none, none, none]) (fun (x3 : (List (Int × Int))) (x4 : (List Int)) => [some (D.int a0), some ((eL (eT D.int)) a1), some ((eT (eT D.int)) x1), some ((eDt (kT kI) D.int) x2), some ((eL (eP2 D.int D.int)) x3), some ((eT D.int) x4), none, none]) rfl (fun _ _ => rfl) fun x3 x4 =>
  (t_seq fin_L (fun x22 : (List (Int × Int)) => [some (D.int a0), some ((eL (eT D.int)) a1), some ((eT (eT D.int)) x1), some ((eDt (kT kI) D.int) x2), some ((eL (eP2 D.int D.int)) x22), some ((eT D.int) x4), none, none]) (s_for (ex := (eT D.int)) (s0 := x3) (q_L (b_iL (q := (eT (eT D.int))) (e := (eT D.int)) (q_on (a_p rfl (a_0 (rf_chk (n_frozen_lti a1) rfl)))) fun _ => rfl)) (fun x5 : (List (Int × Int)) => [some (D.int a0), some ((eL (eT D.int)) a1), some ((eT (eT D.int)) x1), some ((eDt (kT kI) D.int) x2), some ((eL (eP2 D.int D.int)) x5), some ((eT D.int) x4), none, none]) (fun (x5 : (List (Int × Int))) (x6 : (List Int)) => [some (D.int a0), some ((eL (eT D.int)) a1), some ((eT (eT D.int)) x1), some ((eDt (kT kI) D.int) x2), some ((eL (eP2 D.int D.int)) x5), some ((eT D.int) x4), some ((eT D.int) x6), none]) rfl (fun _ _ => rfl) fun x5 x6 =>
  (t_assoc (t_seq fin_L (fun x7 : (List Int) => [some (D.int a0), some ((eL (eT D.int)) a1), some ((eT (eT D.int)) x1), some ((eDt (kT kI) D.int) x2), some ((eL (eP2 D.int D.int)) x5), some ((eT D.int) x4), some ((eT D.int) x6), some ((eT D.int) x7)]) (s_set (e := (eT D.int)) _ (q_on (a_p rfl (a_p rfl (a_0 (rf_chk (n_composed_ti_ti x4 x6) rfl))))) fun _ => rfl) fun x7 =>
  (t_seq fin_L (fun x20 : (List (Int × Int)) => [some (D.int a0), some ((eL (eT D.int)) a1), some ((eT (eT D.int)) x1), some ((eDt (kT kI) D.int) x2), some ((eL (eP2 D.int D.int)) x20), some ((eT D.int) x4), some ((eT D.int) x6), some ((eT D.int) x7)]) (s_if (o' := (fun s : (List (Int × Int)) => Fl.nx [some (D.int a0), some ((eL (eT D.int)) a1), some ((eT (eT D.int)) x1), some ((eDt (kT kI) D.int) x2), some ((eL (eP2 D.int D.int)) s), some ((eT D.int) x4), some ((eT D.int) x6), some ((eT D.int) x7)])) (t_if (evB (ev2 rfl rfl (op_ne (e := (eT D.int)) (x := x7) (x' := x4)))) (t_seq fin_S (fun x19 : (List (Int × Int)) => [some (D.int a0), some ((eL (eT D.int)) a1), some ((eT (eT D.int)) x1), some ((eDt (kT kI) D.int) x2), some ((eL (eP2 D.int D.int)) x19), some ((eT D.int) x4), some ((eT D.int) x6), some ((eT D.int) x7)]) (s_appI (e := (eP2 D.int D.int)) (xs := x5) (fun ys : (List (Int × Int)) => [some (D.int a0), some ((eL (eT D.int)) a1), some ((eT (eT D.int)) x1), some ((eDt (kT kI) D.int) x2), some ((eL (eP2 D.int D.int)) ys), some ((eT D.int) x4), some ((eT D.int) x6), some ((eT D.int) x7)]) rfl (q_on (a_i (q_f2 (b_p rfl (b_p rfl (op_dgetT (kd_T kd_I) (inj_kT inj_kI))))) fun x16 => (a_i (q_f2 (b_p rfl (b_p rfl (op_dgetT (kd_T kd_I) (inj_kT inj_kI))))) fun x17 => (a_0 (rf_ok rfl))))) fun _ => rfl) fun x19 =>
  (t_next rfl))
  (t_nextS (t_next rfl)))) fun x20 =>
  (t_next rfl))))) fun x22 =>
  (t_next rfl))) fun x23 =>
  (t_end (t_retF (q_on (a_p (evOn (evA rfl rfl) op_lenT) (a_p rfl (a_0 (rf_chk (n_Net_init_i_lpiiq (x1.length : Int) x23) rfl))))))))))))
def N_step_turns_i_lti (a0 : Int) (a1 : (List (List Int))) : Res (List (List Int)) :=
  ((N_group_i_lti a0 a1).bind fun x1 =>
  ((N_node_numbers_tti x1).bind fun x2 =>
  ((lcR x1 (fun x3 => Res.ok true) (fun x3 => ((lcR x1 (fun x4 => Res.ok true) (fun x4 => ((N_composed_ti_ti x3 x4).bind fun x5 => (dgetN x2 x5)))).bind fun x6 => (Res.ok x6)))).bind fun x7 => (Res.ok x7))))
theorem n_step_turns_i_lti (a0 : Int) (a1 : (List (List Int))) : Rf (m_step_turns [D.int a0, (eL (eT D.int)) a1]) (N_step_turns_i_lti a0 a1) (eT (eT D.int)) :=
  n_runF ((t_seq fin_F (fun x1 : (List (List Int)) => [some (D.int a0), some ((eL (eT D.int)) a1), some ((eT (eT D.int)) x1), none, none, none]) (s_set (e := (eT (eT D.int))) _ (q_on (a_p rfl (a_p rfl (a_0 (rf_chk (n_group_i_lti a0 a1) rfl))))) fun _ => rfl) fun x1 =>
  (t_seq fin_F (fun x2 : (List ((List Int) × Int)) => [some (D.int a0), some ((eL (eT D.int)) a1), some ((eT (eT D.int)) x1), some ((eDt (kT kI) D.int) x2), none, none]) (s_set (e := (eDt (kT kI) D.int)) _ (q_on (a_p rfl (a_0 (rf_chk (n_node_numbers_tti x1) rfl)))) fun _ => rfl) fun x2 =>
  (t_end (t_retF (q_on (a_i (rf_lcp (it_T (e := (eT D.int)) (xs := x1) rfl) (fun x3 : (List Int) => [some (D.int a0), some ((eL (eT D.int)) a1), some ((eT (eT D.int)) x1), some ((eDt (kT kI) D.int) x2), some ((eT D.int) x3), none]) (fun _ => rfl) (fun x3 => (rf_ok (v := true) rfl)) (fun x3 => (q_on (a_i (rf_lcp (it_T (e := (eT D.int)) (xs := x1) rfl) (fun x4 : (List Int) => [some (D.int a0), some ((eL (eT D.int)) a1), some ((eT (eT D.int)) x1), some ((eDt (kT kI) D.int) x2), some ((eT D.int) x3), some ((eT D.int) x4)]) (fun _ => rfl) (fun x4 => (rf_ok (v := true) rfl)) (fun x4 => (q_f2 (b_p rfl (b_i (q_on (a_p rfl (a_p rfl (a_0 (rf_chk (n_composed_ti_ti x3 x4) rfl))))) fun x5 => (op_dgetT (kd_T kd_I) (inj_kT inj_kI))))))) fun x6 => (a_0 (rf_ok rfl)))))) fun x7 => (a_0 (rf_ok rfl)))))))))
def N_law_asked_i_i_lti (a0 : Int) (a1 : Int) (a2 : (List (List Int))) : Res D :=
  (tryR al_BookError
  ((if (decide (a0 = 1)) = true then ((((N_step_net_i_lti a1 a2).bind fun x1 => (Res.ok x1.1)).bind fun x2 => (Res.ok ((Str.ofString "size"), x2))).bind fun x3 => Res.ok ((eH2 D.str D.int) x3)) else
  (if (decide (a0 = 2)) = true then ((((N_step_turns_i_lti a1 a2).bind fun x4 => (Res.ok (x4.length : Int))).bind fun x5 => (Res.ok ((Str.ofString "size"), x5))).bind fun x6 => Res.ok ((eH2 D.str D.int) x6)) else
  (((N_group_i_lti a1 a2).bind fun x7 => (Res.ok ((Str.ofString "made"), x7))).bind fun x8 => Res.ok ((eH2 D.str (eT (eT D.int))) x8)))))
  fun x9 x10 =>
  (((askR al_BadStep x9).bind fun x12 => ((askR al_TooLarge x9).bind fun x13 => ((askR al_BadSize x9).bind fun x14 => (((askR al_ValueError x9).bind fun x11 => Res.ok (!x11)).bind fun x15 => (Res.ok [x12, x13, x14, x15]))))).bind fun x16 =>
  (if (decide (x16 = [true, false, false, false])) = true then (((fldR ["BadStep", "BadLink"] "index" x9 x10).bind fun x17 => (Res.ok ((Str.ofString "step"), x17))).bind fun x18 => Res.ok ((eH2 D.str D.int) x18)) else
  (if (decide (x16 = [false, true, false, false])) = true then (((fldR ["TooLarge"] "limit" x9 x10).bind fun x19 => (Res.ok ((Str.ofString "large"), x19))).bind fun x20 => Res.ok ((eH2 D.str D.int) x20)) else
  (Res.ok ((eL D.str) [(Str.ofString "other")]))))))
theorem n_law_asked_i_i_lti (a0 : Int) (a1 : Int) (a2 : (List (List Int))) : Rf (m_law_asked [D.int a0, D.int a1, (eL (eT D.int)) a2]) (N_law_asked_i_i_lti a0 a1 a2) (fun d : D => d) :=
  n_runF ((t_tryF
  (t_if (evB (ev2 rfl rfl (op_eq (e := D.int) (x := a0) (x' := 1)))) (t_retF (rf_co (e' := (fun d : D => d)) (fun x3 : (Str × Int) => ((eH2 D.str D.int) x3)) (q_on (a_p rfl (a_i (q_f1 (b_i (q_on (a_p rfl (a_p rfl (a_0 (rf_chk (n_step_net_i_lti a1 a2) rfl))))) fun x1 => (rf_ok fld_hit))) fun x2 => (a_0 (rf_ok rfl))))) fun _ => rfl))
  (t_nextS (t_if (evB (ev2 rfl rfl (op_eq (e := D.int) (x := a0) (x' := 2)))) (t_retF (rf_co (e' := (fun d : D => d)) (fun x6 : (Str × Int) => ((eH2 D.str D.int) x6)) (q_on (a_p rfl (a_i (q_on (a_i (q_on (a_p rfl (a_p rfl (a_0 (rf_chk (n_step_turns_i_lti a1 a2) rfl))))) fun x4 => (a_0 (rf_ok op_lenT)))) fun x5 => (a_0 (rf_ok rfl))))) fun _ => rfl))
  (t_nextS (t_end (t_retF (rf_co (e' := (fun d : D => d)) (fun x8 : (Str × (List (List Int))) => ((eH2 D.str (eT (eT D.int))) x8)) (q_on (a_p rfl (a_i (q_on (a_p rfl (a_p rfl (a_0 (rf_chk (n_group_i_lti a1 a2) rfl))))) fun x7 => (a_0 (rf_ok rfl))))) fun _ => rfl)))))))
  fun x9 x10 =>
  (t_seq fin_F (fun x16 : (List Bool) => [none, none, none, some (D.exc x9 (x10.map (·.1)) (x10.map (·.2))), some ((eL D.bl) x16)]) (s_set (e := (eL D.bl)) _ (q_on (a_i (e_isE rfl) fun x12 => (a_i (e_isE rfl) fun x13 => (a_i (e_isE rfl) fun x14 => (a_i (q_Bv (rf_bv (q_Not (b_i (q_B (b_iB (e_isE rfl))) fun _ => rf_ok rfl)))) fun x15 => (a_0 (rf_ok rfl))))))) fun _ => rfl) fun x16 =>
  (t_if (evNx (evB (ev2 rfl rfl (op_eq (e := (eL D.bl)) (x := x16) (x' := [true, false, false, false]))))) (t_retF (rf_co (e' := (fun d : D => d)) (fun x18 : (Str × Int) => ((eH2 D.str D.int) x18)) (q_on (a_p rfl (a_i (e_fldE rfl) fun x17 => (a_0 (rf_ok rfl))))) fun _ => rfl))
  (t_nextS (t_if (evNx (evB (ev2 rfl rfl (op_eq (e := (eL D.bl)) (x := x16) (x' := [false, true, false, false]))))) (t_retF (rf_co (e' := (fun d : D => d)) (fun x20 : (Str × Int) => ((eH2 D.str D.int) x20)) (q_on (a_p rfl (a_i (e_fldE rfl) fun x19 => (a_0 (rf_ok rfl))))) fun _ => rfl))
  (t_nextS (t_end (t_retF (rf_ok (e := (fun d : D => d)) rfl))))))))))
def N_law_same_ti_ti (a0 : (List Int)) (a1 : (List Int)) : Res Bool :=
  (if (!decide ((a0.length : Int) = (a1.length : Int))) = true then (Res.ok false) else
  ((rngR (a1.length : Int)).bind fun x8 => ((forC (σ := Unit) (β := Bool) (fun x1 x2 => ((((ixR a0 x2).bind fun x3 => ((ixR a1 x2).bind fun x4 => (N_law_same_i_i x3 x4))).bind fun x5 => Res.ok (!x5)).bind fun x6 => if x6 = true then Res.ok (.ret false) else
  Res.ok (.go ()))) x8 ()).bind (ctlK (fun x7 => (Res.ok true)) (fun v => v)))))
theorem nr_law_same_ti_ti (n : Nat) (a0 : (List Int)) (a1 : (List Int)) : Rf (r_law_same (n + 2) [(eT D.int) a0, (eT D.int) a1]) (N_law_same_ti_ti a0 a1) D.bl :=
  n_runF ((t_ifT (evOrT (evTr (ev1 rfl (isi_of isTy_tuple_tup)) rfl)) (t_assoc (t_if (evOrF (evNot (evTr (ev1 rfl (isi_of isTy_tuple_tup)) rfl)) (evB (ev2 (evOn (evA rfl rfl) op_lenT) (evOn (evA rfl rfl) op_lenT) (op_ne (e := D.int) (x := (a0.length : Int)) (x' := (a1.length : Int)))))) (t_retF (rf_ok (e := D.bl) rfl))
  (t_nextS (t_assoc (t_forC (ex := D.int) (e := D.bl) (s0 := ()) (rk := (fun v => v)) fin_F (q_R1 (a_p (evOn (evA rfl rfl) op_lenT) (a_0 k_R1))) (fun x1 : Unit => [some ((eT D.int) a0), some ((eT D.int) a1), none]) (fun (x1 : Unit) (x2 : Int) => [some ((eT D.int) a0), some ((eT D.int) a1), some (D.int x2)]) rfl (fun _ _ => rfl) (fun x1 x2 =>
  (t_ifI fin_L (q_Not (b_i (q_Tr (b_iT (q_on (a_i (q_f2 (b_p rfl (b_p rfl op_ixT))) fun x3 => (a_i (q_f2 (b_p rfl (b_p rfl op_ixT))) fun x4 => (a_0 (rf_chk (nr_law_same_i_i (n + 0) x3 x4) rfl))))))) fun _ => rf_ok rfl)) (t_retp rfl rfl)
  (t_nextS (t_next rfl)))) (fun x7 =>
  (t_retF (rf_ok (e := D.bl) rfl))) fun _ => rfl)))))))
def N_law_same_tti_lti (a0 : (List (List Int))) (a1 : (List (List Int))) : Res Bool :=
  (if (!decide ((a0.length : Int) = (a1.length : Int))) = true then (Res.ok false) else
  ((rngR (a1.length : Int)).bind fun x8 => ((forC (σ := Unit) (β := Bool) (fun x1 x2 => ((((ixR a0 x2).bind fun x3 => ((ixR a1 x2).bind fun x4 => (N_law_same_ti_ti x3 x4))).bind fun x5 => Res.ok (!x5)).bind fun x6 => if x6 = true then Res.ok (.ret false) else
  Res.ok (.go ()))) x8 ()).bind (ctlK (fun x7 => (Res.ok true)) (fun v => v)))))
theorem nr_law_same_tti_lti (n : Nat) (a0 : (List (List Int))) (a1 : (List (List Int))) : Rf (r_law_same (n + 3) [(eT (eT D.int)) a0, (eL (eT D.int)) a1]) (N_law_same_tti_lti a0 a1) D.bl :=
  n_runF ((t_ifT (evOrF (evTr (ev1 rfl (isi_of isTy_tuple_lst)) rfl) (evTr (ev1 rfl (isi_of isTy_list_lst)) rfl)) (t_assoc (t_if (evOrF (evNot (evTr (ev1 rfl (isi_of isTy_tuple_tup)) rfl)) (evB (ev2 (evOn (evA rfl rfl) op_lenT) (evOn (evA rfl rfl) op_lenL) (op_ne (e := D.int) (x := (a0.length : Int)) (x' := (a1.length : Int)))))) (t_retF (rf_ok (e := D.bl) rfl))
  (t_nextS (t_assoc (t_forC (ex := D.int) (e := D.bl) (s0 := ()) (rk := (fun v => v)) fin_F (q_R1 (a_p (evOn (evA rfl rfl) op_lenL) (a_0 k_R1))) (fun x1 : Unit => [some ((eT (eT D.int)) a0), some ((eL (eT D.int)) a1), none]) (fun (x1 : Unit) (x2 : Int) => [some ((eT (eT D.int)) a0), some ((eL (eT D.int)) a1), some (D.int x2)]) rfl (fun _ _ => rfl) (fun x1 x2 =>
  (t_ifI fin_L (q_Not (b_i (q_Tr (b_iT (q_on (a_i (q_f2 (b_p rfl (b_p rfl op_ixT))) fun x3 => (a_i (q_f2 (b_p rfl (b_p rfl op_ixL))) fun x4 => (a_0 (rf_chk (nr_law_same_ti_ti (n + 0) x3 x4) rfl))))))) fun _ => rf_ok rfl)) (t_retp rfl rfl)
  (t_nextS (t_next rfl)))) (fun x7 =>
  (t_retF (rf_ok (e := D.bl) rfl))) fun _ => rfl)))))))
theorem n_law_same_tti_lti (a0 : (List (List Int))) (a1 : (List (List Int))) : Rf (m_law_same [(eT (eT D.int)) a0, (eL (eT D.int)) a1]) (N_law_same_tti_lti a0 a1) D.bl := nr_law_same_tti_lti 3 a0 a1
def N_law_told_i_lti (a0 : Int) (a1 : (List (List Int))) : Res Bool :=
  ((N_law_closure_i_lti a0 a1).bind fun x1 =>
  ((lcR a1 (fun x2 => Res.ok true) (fun x2 => (Res.ok x2))).bind fun x3 =>
  ((N_law_asked_i_i_lli 0 a0 x3).bind fun x4 =>
  (optC x1 (((N_law_asked_i_i_lli 1 a0 x3).bind fun x6 => ((N_law_asked_i_i_lti 2 a0 a1).bind fun x7 => (Res.ok (x6, x7)))).bind fun x8 =>
  (((dEq x4 ((eH2 D.str D.int) ((Str.ofString "large"), 24))).bind asB).bind fun x9 => (if x9 = true then (nx ((dEq ((eH2 (fun d : D => d) (fun d : D => d)) x8) ((eL (fun d : D => d)) [((eH2 D.str D.int) ((Str.ofString "large"), 24)), ((eH2 D.str D.int) ((Str.ofString "large"), 24))])).bind asB)) else Res.ok false))) fun x5 => (((dIx x4 (D.int 0)).bind fun x10 => ((dEq x10 (D.str (Str.ofString "made"))).bind asB)).bind fun x15 => (if x15 = true then (((decR (decT (decT decI)) (dIx x4 (D.int 1))).bind fun x11 => (N_law_same_tti_lti x11 x5)).bind fun x14 => (if x14 = true then ((lcR a1 (fun x12 => Res.ok true) (fun x12 => (Res.ok x12))).bind fun x13 => (Res.ok (decide (x3 = x13)))) else Res.ok false)) else Res.ok false))))))
theorem n_law_told_i_lti (a0 : Int) (a1 : (List (List Int))) : Rf (m_law_told [D.int a0, (eL (eT D.int)) a1]) (N_law_told_i_lti a0 a1) D.bl :=
  n_runF ((t_seq fin_F (fun x1 : (Option (List (List Int))) => [some (D.int a0), some ((eL (eT D.int)) a1), some ((eO (eL (eT D.int))) x1), none, none, none, none]) (s_set (e := (eO (eL (eT D.int)))) _ (q_on (a_p rfl (a_p rfl (a_0 (rf_chk (n_law_closure_i_lti a0 a1) rfl))))) fun _ => rfl) fun x1 =>
  (t_seq fin_F (fun x3 : (List (List Int)) => [some (D.int a0), some ((eL (eT D.int)) a1), some ((eO (eL (eT D.int))) x1), some ((eL (eL D.int)) x3), none, none, none]) (s_set (e := (eL (eL D.int))) _ (rf_lcp (it_L (e := (eT D.int)) (xs := a1) rfl) (fun x2 : (List Int) => [some (D.int a0), some ((eL (eT D.int)) a1), some ((eO (eL (eT D.int))) x1), none, none, none, some ((eT D.int) x2)]) (fun _ => rfl) (fun x2 => (rf_ok (v := true) rfl)) (fun x2 => (rf_ok (e := (eL D.int)) rfl))) fun _ => rfl) fun x3 =>
  (t_seq fin_F (fun x4 : D => [some (D.int a0), some ((eL (eT D.int)) a1), some ((eO (eL (eT D.int))) x1), some ((eL (eL D.int)) x3), some ((fun d : D => d) x4), none, none]) (s_set (e := (fun d : D => d)) _ (q_on (a_p rfl (a_p rfl (a_p rfl (a_0 (rf_chk (n_law_asked_i_i_lli 0 a0 x3) rfl)))))) fun _ => rfl) fun x4 =>
  (t_ifC (x := x1) (fun z : (Option (List (List Int))) => [some (D.int a0), some ((eL (eT D.int)) a1), some ((eO (eL (eT D.int))) z), some ((eL (eL D.int)) x3), some ((fun d : D => d) x4), none, none]) (t_ifT rfl (t_assoc (t_seq fin_F (fun x8 : (D × D) => [some (D.int a0), some ((eL (eT D.int)) a1), some (eN ()), some ((eL (eL D.int)) x3), some ((fun d : D => d) x4), some ((eH2 (fun d : D => d) (fun d : D => d)) x8), none]) (s_set (e := (eH2 (fun d : D => d) (fun d : D => d))) _ (q_on (a_i (q_on (a_p rfl (a_p rfl (a_p rfl (a_0 (rf_chk (n_law_asked_i_i_lli 1 a0 x3) rfl)))))) fun x6 => (a_i (q_on (a_p rfl (a_p rfl (a_p rfl (a_0 (rf_chk (n_law_asked_i_i_lti 2 a0 a1) rfl)))))) fun x7 => (a_0 (rf_ok rfl))))) fun _ => rfl) fun x8 =>
  (t_retF (q_Bv (rf_bv (rAndI (q_B (b_iB (q_f2 (b_p rfl (b_p rfl rf_asB))))) (q_B (b_iB (rSc (q_f2 (b_p rfl (b_p rfl rf_asB))) fun _ => rfl)))))))))) fun x5 => (t_ifF rfl (t_nextS (t_end (t_retF (q_Bv (rf_bv (rAndI (q_B (b_iB (q_f2 (b_i (q_f2 (b_p rfl (b_p rfl rf_id))) fun x10 => (b_p rfl rf_asB))))) (rAndI (q_B (b_iB (q_on (a_i (rf_dec (q_f2 (b_p rfl (b_p rfl rf_id))) (dok_T (dok_T dok_I))) fun x11 => (a_p rfl (a_0 (rf_chk (n_law_same_tti_lti x11 x5) rfl))))))) (q_B (b_iB (q_f2 (b_p rfl (b_i (rf_lcp (it_L (e := (eT D.int)) (xs := a1) rfl) (fun x12 : (List Int) => [some (D.int a0), some ((eL (eT D.int)) a1), some ((eL (eT D.int)) x5), some ((eL (eL D.int)) x3), some ((fun d : D => d) x4), none, some ((eT D.int) x12)]) (fun _ => rfl) (fun x12 => (rf_ok (v := true) rfl)) (fun x12 => (rf_ok (e := (eL D.int)) rfl))) fun x13 => (rf_ok (op_eq (e := (eL (eL D.int))) (x := x3) (x' := x13)))))))))))))))))))))
def N_law_cycles_i_ti_lli (a0 : Int) (a1 : (List Int)) (a2 : (List (List Int))) : Res (List Int) :=
  (((rngR a0).bind fun x2 => lcR x2 (fun x1 => Res.ok true) (fun x1 => (Res.ok x1))).bind fun x3 =>
  ((forR (σ := (List Int)) (fun x4 x5 => (((rngR (x5.length : Int)).bind fun x14 => (forR (σ := (List Int)) (fun x6 x7 => (((((modR (x7 + 1) (x5.length : Int)).bind fun x8 => (ixR x5 x8)).bind fun x9 => (ixR a1 x9)).bind fun x11 => (((ixR x5 x7).bind fun x10 => (ixR a1 x10)).bind fun x12 => (setR x6 x12 x11))).bind fun x13 =>
  Res.ok x13)) x14 x4)).bind fun x15 =>
  Res.ok x15)) a2 x3).bind fun x16 =>
  (Res.ok x16)))
theorem n_law_cycles_i_ti_lli (a0 : Int) (a1 : (List Int)) (a2 : (List (List Int))) : Rf (m_law_cycles [D.int a0, (eT D.int) a1, (eL (eL D.int)) a2]) (N_law_cycles_i_ti_lli a0 a1 a2) (eT D.int) :=
  n_runF ((t_seq fin_F (fun x3 : (List Int) => [some (D.int a0), some ((eT D.int) a1), some ((eL (eL D.int)) a2), some ((eL D.int) x3), none, none]) (s_set (e := (eL D.int)) _ (rf_lc (q_R1 (a_p rfl (a_0 k_R1))) (fun x1 : Int => [some (D.int a0), some ((eT D.int) a1), some ((eL (eL D.int)) a2), none, none, some (D.int x1)]) (fun _ => rfl) (fun x1 => (rf_ok (v := true) rfl)) (fun x1 => (rf_ok (e := D.int) rfl))) fun _ => rfl) fun x3 =>
  (t_seq fin_F (fun x16 : (List Int) => [some (D.int a0), some ((eT D.int) a1), some ((eL (eL D.int)) a2), some ((eL D.int) x16), none, none]) (s_forp (ex := (eL D.int)) (s0 := x3) (it_L (e := (eL D.int)) (xs := a2) rfl) (fun x4 : (List Int) => [some (D.int a0), some ((eT D.int) a1), some ((eL (eL D.int)) a2), some ((eL D.int) x4), none, none]) (fun (x4 : (List Int)) (x5 : (List Int)) => [some (D.int a0), some ((eT D.int) a1), some ((eL (eL D.int)) a2), some ((eL D.int) x4), some ((eL D.int) x5), none]) rfl (fun _ _ => rfl) fun x4 x5 =>
  (t_seq fin_L (fun x15 : (List Int) => [some (D.int a0), some ((eT D.int) a1), some ((eL (eL D.int)) a2), some ((eL D.int) x15), some ((eL D.int) x5), none]) (s_for (ex := D.int) (s0 := x4) (q_R1 (a_p (evOn (evA rfl rfl) op_lenL) (a_0 k_R1))) (fun x6 : (List Int) => [some (D.int a0), some ((eT D.int) a1), some ((eL (eL D.int)) a2), some ((eL D.int) x6), some ((eL D.int) x5), none]) (fun (x6 : (List Int)) (x7 : Int) => [some (D.int a0), some ((eT D.int) a1), some ((eL (eL D.int)) a2), some ((eL D.int) x6), some ((eL D.int) x5), some (D.int x7)]) rfl (fun _ _ => rfl) fun x6 x7 =>
  (t_seq fin_L (fun x13 : (List Int) => [some (D.int a0), some ((eT D.int) a1), some ((eL (eL D.int)) a2), some ((eL D.int) x13), some ((eL D.int) x5), some (D.int x7)]) (s_setIxIJ (e := D.int) (xs := x6) (fun ys : (List Int) => [some (D.int a0), some ((eT D.int) a1), some ((eL (eL D.int)) a2), some ((eL D.int) ys), some ((eL D.int) x5), some (D.int x7)]) rfl (q_f2 (b_p rfl (b_i (q_f2 (b_p rfl (b_i (q_f2 (b_p rfl (b_p (evOn (evA rfl rfl) op_lenL) op_mod))) fun x8 => op_ixL))) fun x9 => op_ixT))) (q_f2 (b_p rfl (b_i (q_f2 (b_p rfl (b_p rfl op_ixL))) fun x10 => op_ixT))) fun _ => rfl) fun x13 =>
  (t_next rfl))) fun x15 =>
  (t_next rfl))) fun x16 =>
  (t_end (t_retF (rf_ok (e := (eT D.int)) rfl))))))
def N_law_built_li (a0 : (List Int)) : Res (Int × (List (List Int))) :=
  (((ixR a0 0).bind fun x1 => (ixR [4, 8, 7, 8, 5, 6, 7, 6] x1)).bind fun x2 =>
  ((((ixR a0 1).bind fun x3 => (modR x3 (9 - x2))).bind fun x4 => (Res.ok (x2 + x4))).bind fun x5 =>
  ((((ixR a0 0).bind fun x10 => (Res.ok (decide (x10 = 1)))).bind fun x11 => if x11 = true then Res.ok [[0, 1, 2], [3, 4, 5, 6, 7]] else
  Res.ok [[0, 1, 2, 3]]).bind fun x12 =>
  ((((ixR a0 0).bind fun x17 => (Res.ok (decide (x17 = 2)))).bind fun x18 => if x18 = true then Res.ok [[0, 1, 2], [3, 4, 5, 6]] else
  Res.ok x12).bind fun x19 =>
  ((((ixR a0 0).bind fun x24 => (Res.ok (decide (x24 = 3)))).bind fun x25 => if x25 = true then Res.ok ([[0, 1, 2]], [[3, 4, 5, 6, 7]]) else
  Res.ok (x19, [[0, 1]])).bind fun x26 =>
  ((((ixR a0 0).bind fun x31 => (Res.ok (decide (x31 = 4)))).bind fun x32 => if x32 = true then Res.ok ([[0, 1, 2, 3, 4]], [[1, 2, 4, 3]]) else
  Res.ok (x26.1, x26.2)).bind fun x33 =>
  ((((ixR a0 0).bind fun x38 => (Res.ok (decide (x38 = 5)))).bind fun x39 => if x39 = true then Res.ok [[0, 2], [4, 5]] else
  Res.ok x33.2).bind fun x40 =>
  ((((ixR a0 0).bind fun x45 => (Res.ok (decide (x45 = 6)))).bind fun x46 => if x46 = true then Res.ok [[4, 5, 6]] else
  Res.ok x40).bind fun x47 =>
  ((((ixR a0 0).bind fun x52 => (Res.ok (decide (x52 = 7)))).bind fun x53 => if x53 = true then Res.ok ([[0, 1, 2], [4, 5]], [[1, 2, 3], [4, 5]]) else
  Res.ok (x33.1, x47)).bind fun x54 =>
  ((N_law_day_i_li x5 (cutN a0 (some 2) none)).bind fun x55 =>
  (((N_law_cycles_i_ti_lli x5 x55 x54.1).bind fun x56 => ((N_law_cycles_i_ti_lli x5 x55 x54.2).bind fun x57 => (Res.ok [x56, x57]))).bind fun x58 => (Res.ok (x5, x58)))))))))))))
theorem n_law_built_li (a0 : (List Int)) : Rf (m_law_built [(eL D.int) a0]) (N_law_built_li a0) (eH2 D.int (eL (eT D.int))) :=
  n_runF ((t_seq fin_F (fun x2 : Int => [some ((eL D.int) a0), some (D.int x2), none, none, none]) (s_set (e := D.int) _ (q_f2 (b_p rfl (b_i (q_f2 (b_p rfl (b_p rfl op_ixL))) fun x1 => (op_ixL (e := D.int) (xs := [4, 8, 7, 8, 5, 6, 7, 6]))))) fun _ => rfl) fun x2 =>
  (t_seq fin_F (fun x5 : Int => [some ((eL D.int) a0), some (D.int x5), none, none, none]) (s_set (e := D.int) _ (q_f2 (b_p rfl (b_i (q_f2 (b_i (q_f2 (b_p rfl (b_p rfl op_ixL))) fun x3 => (b_p rfl op_mod))) fun x4 => (rf_ok rfl)))) fun _ => rfl) fun x5 =>
  (t_seqp [some ((eL D.int) a0), some (D.int x5), some ((eL (eL D.int)) [[0, 1, 2, 3]]), none, none] (set_p rfl rfl) (t_seqp [some ((eL D.int) a0), some (D.int x5), some ((eL (eL D.int)) [[0, 1, 2, 3]]), some ((eL (eL D.int)) [[0, 1]]), none] (set_p rfl rfl) (t_seq fin_F (fun x12 : (List (List Int)) => [some ((eL D.int) a0), some (D.int x5), some ((eL (eL D.int)) x12), some ((eL (eL D.int)) [[0, 1]]), none]) (s_if (o' := (fun s : (List (List Int)) => Fl.nx [some ((eL D.int) a0), some (D.int x5), some ((eL (eL D.int)) s), some ((eL (eL D.int)) [[0, 1]]), none])) (t_ifI fin_S (q_B (b_iB (q_f2 (b_i (q_f2 (b_p rfl (b_p rfl op_ixL))) fun x10 => (b_p rfl (rf_ok (op_eq (e := D.int) (x := x10) (x' := 1)))))))) (t_seqp [some ((eL D.int) a0), some (D.int x5), some ((eL (eL D.int)) [[0, 1, 2], [3, 4, 5, 6, 7]]), some ((eL (eL D.int)) [[0, 1]]), none] (set_p rfl rfl) (t_next rfl))
  (t_nextS (t_next rfl)))) fun x12 =>
  (t_seq fin_F (fun x19 : (List (List Int)) => [some ((eL D.int) a0), some (D.int x5), some ((eL (eL D.int)) x19), some ((eL (eL D.int)) [[0, 1]]), none]) (s_if (o' := (fun s : (List (List Int)) => Fl.nx [some ((eL D.int) a0), some (D.int x5), some ((eL (eL D.int)) s), some ((eL (eL D.int)) [[0, 1]]), none])) (t_ifI fin_S (q_B (b_iB (q_f2 (b_i (q_f2 (b_p rfl (b_p rfl op_ixL))) fun x17 => (b_p rfl (rf_ok (op_eq (e := D.int) (x := x17) (x' := 2)))))))) (t_seqp [some ((eL D.int) a0), some (D.int x5), some ((eL (eL D.int)) [[0, 1, 2], [3, 4, 5, 6]]), some ((eL (eL D.int)) [[0, 1]]), none] (set_p rfl rfl) (t_next rfl))
  (t_nextS (t_next rfl)))) fun x19 =>
  (t_seq fin_F (fun x26 : ((List (List Int)) × (List (List Int))) => [some ((eL D.int) a0), some (D.int x5), some ((eL (eL D.int)) x26.1), some ((eL (eL D.int)) x26.2), none]) (s_if (o' := (fun s : ((List (List Int)) × (List (List Int))) => Fl.nx [some ((eL D.int) a0), some (D.int x5), some ((eL (eL D.int)) s.1), some ((eL (eL D.int)) s.2), none])) (t_ifI fin_S (q_B (b_iB (q_f2 (b_i (q_f2 (b_p rfl (b_p rfl op_ixL))) fun x24 => (b_p rfl (rf_ok (op_eq (e := D.int) (x := x24) (x' := 3)))))))) (t_assoc (t_seqp [some ((eL D.int) a0), some (D.int x5), some ((eL (eL D.int)) [[0, 1, 2]]), some ((eL (eL D.int)) [[0, 1]]), none] (set_p rfl rfl) (t_seqp [some ((eL D.int) a0), some (D.int x5), some ((eL (eL D.int)) [[0, 1, 2]]), some ((eL (eL D.int)) [[3, 4, 5, 6, 7]]), none] (set_p rfl rfl) (t_next rfl))))
  (t_nextS (t_next rfl)))) fun x26 =>
  (t_seq fin_F (fun x33 : ((List (List Int)) × (List (List Int))) => [some ((eL D.int) a0), some (D.int x5), some ((eL (eL D.int)) x33.1), some ((eL (eL D.int)) x33.2), none]) (s_if (o' := (fun s : ((List (List Int)) × (List (List Int))) => Fl.nx [some ((eL D.int) a0), some (D.int x5), some ((eL (eL D.int)) s.1), some ((eL (eL D.int)) s.2), none])) (t_ifI fin_S (q_B (b_iB (q_f2 (b_i (q_f2 (b_p rfl (b_p rfl op_ixL))) fun x31 => (b_p rfl (rf_ok (op_eq (e := D.int) (x := x31) (x' := 4)))))))) (t_assoc (t_seqp [some ((eL D.int) a0), some (D.int x5), some ((eL (eL D.int)) [[0, 1, 2, 3, 4]]), some ((eL (eL D.int)) x26.2), none] (set_p rfl rfl) (t_seqp [some ((eL D.int) a0), some (D.int x5), some ((eL (eL D.int)) [[0, 1, 2, 3, 4]]), some ((eL (eL D.int)) [[1, 2, 4, 3]]), none] (set_p rfl rfl) (t_next rfl))))
  (t_nextS (t_next rfl)))) fun x33 =>
  (t_seq fin_F (fun x40 : (List (List Int)) => [some ((eL D.int) a0), some (D.int x5), some ((eL (eL D.int)) x33.1), some ((eL (eL D.int)) x40), none]) (s_if (o' := (fun s : (List (List Int)) => Fl.nx [some ((eL D.int) a0), some (D.int x5), some ((eL (eL D.int)) x33.1), some ((eL (eL D.int)) s), none])) (t_ifI fin_S (q_B (b_iB (q_f2 (b_i (q_f2 (b_p rfl (b_p rfl op_ixL))) fun x38 => (b_p rfl (rf_ok (op_eq (e := D.int) (x := x38) (x' := 5)))))))) (t_seqp [some ((eL D.int) a0), some (D.int x5), some ((eL (eL D.int)) x33.1), some ((eL (eL D.int)) [[0, 2], [4, 5]]), none] (set_p rfl rfl) (t_next rfl))
  (t_nextS (t_next rfl)))) fun x40 =>
  (t_seq fin_F (fun x47 : (List (List Int)) => [some ((eL D.int) a0), some (D.int x5), some ((eL (eL D.int)) x33.1), some ((eL (eL D.int)) x47), none]) (s_if (o' := (fun s : (List (List Int)) => Fl.nx [some ((eL D.int) a0), some (D.int x5), some ((eL (eL D.int)) x33.1), some ((eL (eL D.int)) s), none])) (t_ifI fin_S (q_B (b_iB (q_f2 (b_i (q_f2 (b_p rfl (b_p rfl op_ixL))) fun x45 => (b_p rfl (rf_ok (op_eq (e := D.int) (x := x45) (x' := 6)))))))) (t_seqp [some ((eL D.int) a0), some (D.int x5), some ((eL (eL D.int)) x33.1), some ((eL (eL D.int)) [[4, 5, 6]]), none] (set_p rfl rfl) (t_next rfl))
  (t_nextS (t_next rfl)))) fun x47 =>
  (t_seq fin_F (fun x54 : ((List (List Int)) × (List (List Int))) => [some ((eL D.int) a0), some (D.int x5), some ((eL (eL D.int)) x54.1), some ((eL (eL D.int)) x54.2), none]) (s_if (o' := (fun s : ((List (List Int)) × (List (List Int))) => Fl.nx [some ((eL D.int) a0), some (D.int x5), some ((eL (eL D.int)) s.1), some ((eL (eL D.int)) s.2), none])) (t_ifI fin_S (q_B (b_iB (q_f2 (b_i (q_f2 (b_p rfl (b_p rfl op_ixL))) fun x52 => (b_p rfl (rf_ok (op_eq (e := D.int) (x := x52) (x' := 7)))))))) (t_assoc (t_seqp [some ((eL D.int) a0), some (D.int x5), some ((eL (eL D.int)) [[0, 1, 2], [4, 5]]), some ((eL (eL D.int)) x47), none] (set_p rfl rfl) (t_seqp [some ((eL D.int) a0), some (D.int x5), some ((eL (eL D.int)) [[0, 1, 2], [4, 5]]), some ((eL (eL D.int)) [[1, 2, 3], [4, 5]]), none] (set_p rfl rfl) (t_next rfl))))
  (t_nextS (t_next rfl)))) fun x54 =>
  (t_seq fin_F (fun x55 : (List Int) => [some ((eL D.int) a0), some (D.int x5), some ((eL (eL D.int)) x54.1), some ((eL (eL D.int)) x54.2), some ((eT D.int) x55)]) (s_set (e := (eT D.int)) _ (q_on (a_p rfl (a_p (evCut rfl rfl rfl op_cutL) (a_0 (rf_chk (n_law_day_i_li x5 (cutN a0 (some 2) none)) rfl))))) fun _ => rfl) fun x55 =>
  (t_end (t_retF (q_on (a_p rfl (a_i (q_on (a_i (q_on (a_p rfl (a_p rfl (a_p rfl (a_0 (rf_chk (n_law_cycles_i_ti_lli x5 x55 x54.1) rfl)))))) fun x56 => (a_i (q_on (a_p rfl (a_p rfl (a_p rfl (a_0 (rf_chk (n_law_cycles_i_ti_lli x5 x55 x54.2) rfl)))))) fun x57 => (a_0 (rf_ok rfl))))) fun x58 => (a_0 (rf_ok rfl))))))))))))))))))))
def N_law_fi (a0 : (List Int)) : Res Bool :=
  (((N_law_cell_fi_i a0 0).bind fun x1 => (N_law_digits_i_li x1 [8, 5, 5, 4, 9])).bind fun x2 =>
  (((ixR x2 0).bind fun x3 => (Res.ok (1 + x3))).bind fun x4 =>
  ((((ixR x2 3).bind fun x15 => (Res.ok (decide (0 < x15)))).bind fun x19 => if x19 = true then ((((ixR x2 0).bind fun x16 => (Res.ok (x16 % 5))).bind fun x17 => (Res.ok (1 + x17))).bind fun x18 =>
  Res.ok x18) else
  Res.ok x4).bind fun x20 =>
  ((((ixR x2 1).bind fun x21 => (rngR x21)).bind fun x30 => (forR (σ := (List (List Int))) (fun x22 x23 => (((((N_law_cell_fi_i a0 (1 + x23)).bind fun x25 => (((repR [24] 8).bind fun x24 => (catR [6, 8, 8, 8] x24)).bind fun x26 => (N_law_digits_i_li x25 x26))).bind fun x27 => (N_law_step_i_li x20 x27)).bind fun x28 => appR x22 x28).bind fun x29 =>
  Res.ok x29)) x30 [])).bind fun x31 =>
  (((nx (N_law_told_i_lti x20 x31)).bind fun x32 => Res.ok (!x32)).bind fun x72 => if x72 = true then (Res.ok false) else
  ((((repR [0] (x20 + 1)).bind fun x39 => ((((rng2R 1 x20).bind fun x34 => lcR x34 (fun x33 => Res.ok true) (fun x33 => (Res.ok x33))).bind fun x35 => (catR [x20] x35)).bind fun x40 => ((((rng2R 1 x20).bind fun x37 => lcR x37 (fun x36 => Res.ok true) (fun x36 => (Res.ok x36))).bind fun x38 => (catR [(-1)] x38)).bind fun x41 => (Res.ok [x39, x40, [], x41])))).bind fun x43 => (((ixR x2 4).bind fun x42 => (Res.ok (x42 % 4))).bind fun x44 => (ixR x43 x44))).bind fun x45 =>
  (((ixR x2 2).bind fun x46 => (Res.ok (if (x31.length : Int) < x46 then (x31.length : Int) else x46))).bind fun x47 =>
  (((((lcR (cutN x31 none (some x47)) (fun x48 => Res.ok true) (fun x48 => (Res.ok x48))).bind fun x49 => (catR x49 [x45])).bind fun x51 => ((lcR (cutN x31 (some x47) none) (fun x50 => Res.ok true) (fun x50 => (Res.ok x50))).bind fun x52 => (catR x51 x52))).bind fun x53 => (catR x53 [[]])).bind fun x54 =>
  ((rngR 3).bind fun x71 => ((forC (σ := Unit) (β := Bool) (fun x55 x56 => ((nx ((N_law_asked_i_i_lli x56 x20 x54).bind fun x57 => ((dNe x57 ((eH2 D.str D.int) ((Str.ofString "step"), x47))).bind asB))).bind fun x58 => if x58 = true then Res.ok (.ret false) else
  Res.ok (.go ()))) x71 ()).bind (ctlK (fun x59 => ((rngR 2).bind fun x70 => ((forC (σ := Unit) (β := Bool) (fun x60 x61 => ((((N_law_cell_fi_i a0 (5 + x61)).bind fun x63 => (((repR [24] 8).bind fun x62 => (catR [8, 8] x62)).bind fun x64 => (N_law_digits_i_li x63 x64))).bind fun x65 => (N_law_built_li x65)).bind fun x66 =>
  (((N_law_told_i_lti x66.1 x66.2).bind fun x67 => Res.ok (!x67)).bind fun x68 => if x68 = true then Res.ok (.ret false) else
  Res.ok (.go ())))) x70 ()).bind (ctlK (fun x69 => (Res.ok true)) (fun v => v))))) (fun v => v))))))))))))
theorem n_law_fi (a0 : (List Int)) : Rf (m_law [(eF D.int) a0]) (N_law_fi a0) D.bl :=
  n_runF ((t_seq fin_F (fun x2 : (List Int) => [some ((eF D.int) a0), some ((eL D.int) x2), none, none, none, none, none, none, none, none, none, none]) (s_set (e := (eL D.int)) _ (q_on (a_i (q_on (a_p rfl (a_p rfl (a_0 (rf_chk (n_law_cell_fi_i a0 0) rfl))))) fun x1 => (a_p rfl (a_0 (rf_chk (n_law_digits_i_li x1 [8, 5, 5, 4, 9]) rfl))))) fun _ => rfl) fun x2 =>
  (t_seq fin_F (fun x4 : Int => [some ((eF D.int) a0), some ((eL D.int) x2), some (D.int x4), none, none, none, none, none, none, none, none, none]) (s_set (e := D.int) _ (q_f2 (b_p rfl (b_i (q_f2 (b_p rfl (b_p rfl op_ixL))) fun x3 => (rf_ok rfl)))) fun _ => rfl) fun x4 =>
  (t_seq fin_F (fun x20 : Int => [some ((eF D.int) a0), some ((eL D.int) x2), some (D.int x20), none, none, none, none, none, none, none, none, none]) (s_if (o' := (fun s : Int => Fl.nx [some ((eF D.int) a0), some ((eL D.int) x2), some (D.int s), none, none, none, none, none, none, none, none, none])) (t_ifI fin_S (q_B (b_iB (q_f2 (b_i (q_f2 (b_p rfl (b_p rfl op_ixL))) fun x15 => (b_p rfl (rf_ok rfl)))))) (t_seq fin_S (fun x18 : Int => [some ((eF D.int) a0), some ((eL D.int) x2), some (D.int x18), none, none, none, none, none, none, none, none, none]) (s_set (e := D.int) _ (q_f2 (b_p rfl (b_i (q_f2 (b_i (q_f2 (b_p rfl (b_p rfl op_ixL))) fun x16 => (b_p rfl (rf_ok (op_modp (by decide)))))) fun x17 => (rf_ok rfl)))) fun _ => rfl) fun x18 =>
  (t_next rfl))
  (t_nextS (t_next rfl)))) fun x20 =>
  (t_seqp [some ((eF D.int) a0), some ((eL D.int) x2), some (D.int x20), some ((eL (eT D.int)) []), none, none, none, none, none, none, none, none] (set_p rfl rfl) (t_seq fin_F (fun x31 : (List (List Int)) => [some ((eF D.int) a0), some ((eL D.int) x2), some (D.int x20), some ((eL (eT D.int)) x31), none, none, none, none, none, none, none, none]) (s_for (ex := D.int) (s0 := []) (q_R1 (a_i (q_f2 (b_p rfl (b_p rfl op_ixL))) fun x21 => (a_0 k_R1))) (fun x22 : (List (List Int)) => [some ((eF D.int) a0), some ((eL D.int) x2), some (D.int x20), some ((eL (eT D.int)) x22), none, none, none, none, none, none, none, none]) (fun (x22 : (List (List Int))) (x23 : Int) => [some ((eF D.int) a0), some ((eL D.int) x2), some (D.int x20), some ((eL (eT D.int)) x22), some (D.int x23), none, none, none, none, none, none, none]) rfl (fun _ _ => rfl) fun x22 x23 =>
  (t_seq fin_L (fun x29 : (List (List Int)) => [some ((eF D.int) a0), some ((eL D.int) x2), some (D.int x20), some ((eL (eT D.int)) x29), some (D.int x23), none, none, none, none, none, none, none]) (s_appI (e := (eT D.int)) (xs := x22) (fun ys : (List (List Int)) => [some ((eF D.int) a0), some ((eL D.int) x2), some (D.int x20), some ((eL (eT D.int)) ys), some (D.int x23), none, none, none, none, none, none, none]) rfl (q_on (a_p rfl (a_i (q_on (a_i (q_on (a_p rfl (a_p rfl (a_0 (rf_chk (n_law_cell_fi_i a0 (1 + x23)) rfl))))) fun x25 => (a_i (q_f2 (b_p rfl (b_i (q_f2 (b_p rfl (b_p rfl (op_rep (e := D.int))))) fun x24 => (op_catLL (e := D.int))))) fun x26 => (a_0 (rf_chk (n_law_digits_i_li x25 x26) rfl))))) fun x27 => (a_0 (rf_chk (n_law_step_i_li x20 x27) rfl))))) fun _ => rfl) fun x29 =>
  (t_next rfl))) fun x31 =>
  (t_ifI fin_F (q_Not (b_i (rNx (q_Tr (b_iT (q_on (a_p rfl (a_p rfl (a_0 (rf_chk (n_law_told_i_lti x20 x31) rfl)))))))) fun _ => rf_ok rfl)) (t_retF (rf_ok (e := D.bl) rfl))
  (t_nextS (t_seq fin_F (fun x45 : (List Int) => [some ((eF D.int) a0), some ((eL D.int) x2), some (D.int x20), some ((eL (eT D.int)) x31), none, some ((eL D.int) x45), none, none, none, none, none, none]) (s_set (e := (eL D.int)) _ (q_f2 (b_i (q_on (a_i (q_f2 (b_p rfl (b_p rfl (op_rep (e := D.int))))) fun x39 => (a_i (q_f2 (b_p rfl (b_i (rf_lc (q_R2 (a_p rfl (a_p rfl (a_0 k_R2)))) (fun x33 : Int => [some ((eF D.int) a0), some ((eL D.int) x2), some (D.int x20), some ((eL (eT D.int)) x31), some (D.int x33), none, none, none, none, none, none, none]) (fun _ => rfl) (fun x33 => (rf_ok (v := true) rfl)) (fun x33 => (rf_ok (e := D.int) rfl))) fun x35 => (op_catLL (e := D.int))))) fun x40 => (a_p rfl (a_i (q_f2 (b_p rfl (b_i (rf_lc (q_R2 (a_p rfl (a_p rfl (a_0 k_R2)))) (fun x36 : Int => [some ((eF D.int) a0), some ((eL D.int) x2), some (D.int x20), some ((eL (eT D.int)) x31), some (D.int x36), none, none, none, none, none, none, none]) (fun _ => rfl) (fun x36 => (rf_ok (v := true) rfl)) (fun x36 => (rf_ok (e := D.int) rfl))) fun x38 => (op_catLL (e := D.int))))) fun x41 => (a_0 (rf_ok rfl))))))) fun x43 => (b_i (q_f2 (b_i (q_f2 (b_p rfl (b_p rfl op_ixL))) fun x42 => (b_p rfl (rf_ok (op_modp (by decide)))))) fun x44 => op_ixL))) fun _ => rfl) fun x45 =>
  (t_seq fin_F (fun x47 : Int => [some ((eF D.int) a0), some ((eL D.int) x2), some (D.int x20), some ((eL (eT D.int)) x31), none, some ((eL D.int) x45), some (D.int x47), none, none, none, none, none]) (s_set (e := D.int) _ (q_on (a_i (q_f2 (b_p rfl (b_p rfl op_ixL))) fun x46 => (a_p (evSc (evOn (evA rfl rfl) op_lenL) rfl) (a_0 (rf_ok rfl))))) fun _ => rfl) fun x47 =>
  (t_seq fin_F (fun x54 : (List (List Int)) => [some ((eF D.int) a0), some ((eL D.int) x2), some (D.int x20), some ((eL (eT D.int)) x31), none, some ((eL D.int) x45), some (D.int x47), some ((eL (eL D.int)) x54), none, none, none, none]) (s_set (e := (eL (eL D.int))) _ (q_f2 (b_i (q_f2 (b_i (q_f2 (b_i (rf_lcp (it_L (e := (eT D.int)) (xs := (cutN x31 none (some x47))) (evCut rfl rfl rfl op_cutLL)) (fun x48 : (List Int) => [some ((eF D.int) a0), some ((eL D.int) x2), some (D.int x20), some ((eL (eT D.int)) x31), none, some ((eL D.int) x45), some (D.int x47), none, none, none, none, some ((eT D.int) x48)]) (fun _ => rfl) (fun x48 => (rf_ok (v := true) rfl)) (fun x48 => (rf_ok (e := (eL D.int)) rfl))) fun x49 => (b_p rfl (op_catLL (e := (eL D.int)))))) fun x51 => (b_i (rf_lcp (it_L (e := (eT D.int)) (xs := (cutN x31 (some x47) none)) (evCut rfl rfl rfl op_cutLL)) (fun x50 : (List Int) => [some ((eF D.int) a0), some ((eL D.int) x2), some (D.int x20), some ((eL (eT D.int)) x31), none, some ((eL D.int) x45), some (D.int x47), none, none, none, none, some ((eT D.int) x50)]) (fun _ => rfl) (fun x50 => (rf_ok (v := true) rfl)) (fun x50 => (rf_ok (e := (eL D.int)) rfl))) fun x52 => (op_catLL (e := (eL D.int)))))) fun x53 => (b_p rfl (op_catLL (e := (eL D.int)))))) fun _ => rfl) fun x54 =>
  (t_forC (ex := D.int) (e := D.bl) (s0 := ()) (rk := (fun v => v)) fin_F (q_R1 (a_p rfl (a_0 k_R1))) (fun x55 : Unit => [some ((eF D.int) a0), some ((eL D.int) x2), some (D.int x20), some ((eL (eT D.int)) x31), none, some ((eL D.int) x45), some (D.int x47), some ((eL (eL D.int)) x54), none, none, none, none]) (fun (x55 : Unit) (x56 : Int) => [some ((eF D.int) a0), some ((eL D.int) x2), some (D.int x20), some ((eL (eT D.int)) x31), none, some ((eL D.int) x45), some (D.int x47), some ((eL (eL D.int)) x54), some (D.int x56), none, none, none]) rfl (fun _ _ => rfl) (fun x55 x56 =>
  (t_ifI fin_L (rNx (q_B (b_iB (q_f2 (b_i (q_on (a_p rfl (a_p rfl (a_p rfl (a_0 (rf_chk (n_law_asked_i_i_lli x56 x20 x54) rfl)))))) fun x57 => (b_p rfl rf_asB)))))) (t_retp rfl rfl)
  (t_nextS (t_next rfl)))) (fun x59 =>
  (t_forC (ex := D.int) (e := D.bl) (s0 := ()) (rk := (fun v => v)) fin_F (q_R1 (a_p rfl (a_0 k_R1))) (fun x60 : Unit => [some ((eF D.int) a0), some ((eL D.int) x2), some (D.int x20), some ((eL (eT D.int)) x31), none, some ((eL D.int) x45), some (D.int x47), some ((eL (eL D.int)) x54), none, none, none, none]) (fun (x60 : Unit) (x61 : Int) => [some ((eF D.int) a0), some ((eL D.int) x2), some (D.int x20), some ((eL (eT D.int)) x31), none, some ((eL D.int) x45), some (D.int x47), some ((eL (eL D.int)) x54), none, some (D.int x61), none, none]) rfl (fun _ _ => rfl) (fun x60 x61 =>
  (t_assoc (t_seq fin_L (fun x66 : (Int × (List (List Int))) => [some ((eF D.int) a0), some ((eL D.int) x2), some (D.int x20), some ((eL (eT D.int)) x31), none, some ((eL D.int) x45), some (D.int x47), some ((eL (eL D.int)) x54), none, some (D.int x61), some ((eH2 D.int (eL (eT D.int))) x66), none]) (s_set (e := (eH2 D.int (eL (eT D.int)))) _ (q_on (a_i (q_on (a_i (q_on (a_p rfl (a_p rfl (a_0 (rf_chk (n_law_cell_fi_i a0 (5 + x61)) rfl))))) fun x63 => (a_i (q_f2 (b_p rfl (b_i (q_f2 (b_p rfl (b_p rfl (op_rep (e := D.int))))) fun x62 => (op_catLL (e := D.int))))) fun x64 => (a_0 (rf_chk (n_law_digits_i_li x63 x64) rfl))))) fun x65 => (a_0 (rf_chk (n_law_built_li x65) rfl)))) fun _ => rfl) fun x66 =>
  (t_ifI fin_L (q_Not (b_i (q_Tr (b_iT (q_on (a_p rfl (a_p rfl (a_0 (rf_chk (n_law_told_i_lti x66.1 x66.2) rfl))))))) fun _ => rf_ok rfl)) (t_retp rfl rfl)
  (t_nextS (t_next rfl)))))) (fun x69 =>
  (t_end (t_retF (rf_ok (e := D.bl) rfl)))) fun _ => rfl)) fun _ => rfl))))))))))))
end Kx
namespace Kx
open PySem PySem.Spec L2 Da
def top (i : Nat) : Stmt := PySem.Challenge.pw_nobadday_k08_groups.main.body.getD i (.Pass ⟨0, 0, 0, 0⟩)
abbrev s_law_digits : Stmt := top 32
abbrev s_law_cell : Stmt := top 31
abbrev s_law_closure : Stmt := top 35
abbrev s_frozen : Stmt := top 9
abbrev s_is_number : Stmt := top 10
abbrev s_is_perm : Stmt := top 20
abbrev s_checked_steps : Stmt := top 24
abbrev s_identity : Stmt := top 21
abbrev s_composed : Stmt := top 22
abbrev s_group : Stmt := top 25
abbrev s_node_numbers : Stmt := top 26
abbrev s_is_link : Stmt := top 14
abbrev s_checked_links : Stmt := top 15
abbrev s_near_nodes : Stmt := top 16
abbrev s_lanes_of : Stmt := top 17
abbrev s_reached : Stmt := top 13
abbrev s_Net_init : Stmt := inCls (top 18) 0
abbrev s_step_net : Stmt := top 27
abbrev s_step_turns : Stmt := top 28
abbrev s_law_asked : Stmt := top 36
abbrev s_law_whole : Stmt := top 30
abbrev s_law_same : Stmt := top 34
abbrev s_law_told : Stmt := top 40
abbrev s_law_day : Stmt := top 33
abbrev s_law_cycles : Stmt := top 38
abbrev s_law_built : Stmt := top 39
abbrev s_law_step : Stmt := top 37
abbrev s_law : Stmt := top 41
abbrev s_BadStep_init : Stmt := inCls (top 6) 0
abbrev s_TooLarge_init : Stmt := inCls (top 7) 0
abbrev s_BadLink_init : Stmt := inCls (top 4) 0
abbrev s_BadSize_init : Stmt := inCls (top 3) 0
abbrev s_NotConnected_init : Stmt := inCls (top 5) 0
/-- what stands behind the top -/
structure Txt (K : PySem.W.Frag) (mg : Str → Option Value) : Prop where
  d_law_digits : DefAt K mg "_law_digits" "_law_digits" s_law_digits ["cell", "sizes"]
  d_law_cell : DefAt K mg "_law_cell" "_law_cell" s_law_cell ["script", "k"]
  d_law_closure : DefAt K mg "_law_closure" "_law_closure" s_law_closure ["points", "steps"]
  d_frozen : DefAt K mg "frozen" "frozen" s_frozen ["value"]
  d_is_number : DefAt K mg "is_number" "is_number" s_is_number ["value"]
  d_is_perm : DefAt K mg "is_perm" "is_perm" s_is_perm ["value", "size"]
  d_checked_steps : DefAt K mg "checked_steps" "checked_steps" s_checked_steps ["points", "steps"]
  d_identity : DefAt K mg "identity" "identity" s_identity ["size"]
  d_composed : DefAt K mg "composed" "composed" s_composed ["one", "two"]
  d_group : DefAt K mg "group" "group" s_group ["points", "steps"]
  d_node_numbers : DefAt K mg "node_numbers" "node_numbers" s_node_numbers ["members"]
  d_is_link : DefAt K mg "is_link" "is_link" s_is_link ["size", "link"]
  d_checked_links : DefAt K mg "checked_links" "checked_links" s_checked_links ["size", "links"]
  d_near_nodes : DefAt K mg "near_nodes" "near_nodes" s_near_nodes ["size", "links"]
  d_lanes_of : DefAt K mg "lanes_of" "lanes_of" s_lanes_of ["near"]
  d_reached : DefAt K mg "reached" "reached" s_reached ["size", "links", "start"]
  d_Net_init : InitAt K mg "Net" "Net.__init__" s_Net_init ["self", "size", "links"]
  d_step_net : DefAt K mg "step_net" "step_net" s_step_net ["points", "steps"]
  d_step_turns : DefAt K mg "step_turns" "step_turns" s_step_turns ["points", "steps"]
  d_law_asked : DefAt K mg "_law_asked" "_law_asked" s_law_asked ["door", "points", "steps"]
  d_law_whole : DefAt K mg "_law_whole" "_law_whole" s_law_whole ["value"]
  d_law_same : DefAt K mg "_law_same" "_law_same" s_law_same ["value", "due"]
  d_law_told : DefAt K mg "_law_told" "_law_told" s_law_told ["points", "steps"]
  d_law_day : DefAt K mg "_law_day" "_law_day" s_law_day ["size", "row"]
  d_law_cycles : DefAt K mg "_law_cycles" "_law_cycles" s_law_cycles ["points", "names", "cycles"]
  d_law_built : DefAt K mg "_law_built" "_law_built" s_law_built ["row"]
  d_law_step : DefAt K mg "_law_step" "_law_step" s_law_step ["points", "row"]
  f_Net_lane_row : FldAt K mg "Net" "lane_row"
  f_Net_links : FldAt K mg "Net" "links"
  f_Net_near : FldAt K mg "Net" "near"
  f_Net_size : FldAt K mg "Net" "size"
  e_BadStep : ErrAt K mg "BadStep" "BadStep.__init__" s_BadStep_init ["self", "index"] ["index"]
  e_TooLarge : ErrAt K mg "TooLarge" "TooLarge.__init__" s_TooLarge_init ["self", "limit"] ["limit"]
  e_BadLink : ErrAt K mg "BadLink" "BadLink.__init__" s_BadLink_init ["self", "index"] ["index"]
  e_BadSize : ErrAt K mg "BadSize" "BadSize.__init__" s_BadSize_init ["self", "size"] ["size"]
  e_NotConnected : ErrAt K mg "NotConnected" "NotConnected.__init__" s_NotConnected_init ["self", "node"] ["node"]
  c_MOST_NODES : GlobI mg "MOST_NODES" 24
  h_BookError : ClauseAt K mg "BookError" al_BookError
  y_BadSize : AskOwn K mg "BadSize" al_BadSize
  y_BadStep : AskOwn K mg "BadStep" al_BadStep
  y_TooLarge : AskOwn K mg "TooLarge" al_TooLarge
  y_ValueError : AskAt K mg (.type "ValueError") al_ValueError
  xc : ErrsC K mg ["BadStep", "TooLarge", "BadLink", "BadSize", "NotConnected"]
  x_index : FldE K mg "index" ["BadStep", "BadLink"]
  x_limit : FldE K mg "limit" ["TooLarge"]
  z_ValueError : mg "ValueError" = none
  z_all : mg "all" = none
  z_bool : mg "bool" = none
  z_enumerate : mg "enumerate" = none
  z_int : mg "int" = none
  z_isinstance : mg "isinstance" = none
  z_len : mg "len" = none
  z_list : mg "list" = none
  z_max : mg "max" = none
  z_min : mg "min" = none
  z_range : mg "range" = none
  z_sorted : mg "sorted" = none
  z_str : mg "str" = none
  z_tuple : mg "tuple" = none
theorem sc_BadStep_init : FnScope ["self", "index"] ["self", "index"] (defScope s_BadStep_init) := ⟨rfl, rfl, rfl, by decide +kernel, rfl, by decide +kernel, by decide +kernel⟩
theorem oe_BadStep {P : Program} {w : World} {K : PySem.W.Frag} {mg : Str → Option Value} {base : Heap} (T : Txt K mg) : ErrN P w K mg base "BadStep" 1 ["index"] :=
  errN_of (fj := [("index", 1)]) T.e_BadStep sc_BadStep_init rfl (by decide) rfl rfl (by decide) (by decide) fun f cdv A outer s H E =>
    (pss_cons (ps_ost (pe_var (i := 0) rfl (by first | exact Or.inl rfl | exact Or.inr (Or.inl rfl) | exact Or.inr (Or.inr rfl))) (pe_var (i := 1) rfl (by first | exact Or.inl rfl | exact Or.inr (Or.inl rfl) | exact Or.inr (Or.inr rfl)))) pss_nil)
theorem sc_TooLarge_init : FnScope ["self", "limit"] ["self", "limit"] (defScope s_TooLarge_init) := ⟨rfl, rfl, rfl, by decide +kernel, rfl, by decide +kernel, by decide +kernel⟩
theorem oe_TooLarge {P : Program} {w : World} {K : PySem.W.Frag} {mg : Str → Option Value} {base : Heap} (T : Txt K mg) : ErrN P w K mg base "TooLarge" 1 ["limit"] :=
  errN_of (fj := [("limit", 1)]) T.e_TooLarge sc_TooLarge_init rfl (by decide) rfl rfl (by decide) (by decide) fun f cdv A outer s H E =>
    (pss_cons (ps_ost (pe_var (i := 0) rfl (by first | exact Or.inl rfl | exact Or.inr (Or.inl rfl) | exact Or.inr (Or.inr rfl))) (pe_var (i := 1) rfl (by first | exact Or.inl rfl | exact Or.inr (Or.inl rfl) | exact Or.inr (Or.inr rfl)))) pss_nil)
theorem sc_BadLink_init : FnScope ["self", "index"] ["self", "index"] (defScope s_BadLink_init) := ⟨rfl, rfl, rfl, by decide +kernel, rfl, by decide +kernel, by decide +kernel⟩
theorem oe_BadLink {P : Program} {w : World} {K : PySem.W.Frag} {mg : Str → Option Value} {base : Heap} (T : Txt K mg) : ErrN P w K mg base "BadLink" 1 ["index"] :=
  errN_of (fj := [("index", 1)]) T.e_BadLink sc_BadLink_init rfl (by decide) rfl rfl (by decide) (by decide) fun f cdv A outer s H E =>
    (pss_cons (ps_ost (pe_var (i := 0) rfl (by first | exact Or.inl rfl | exact Or.inr (Or.inl rfl) | exact Or.inr (Or.inr rfl))) (pe_var (i := 1) rfl (by first | exact Or.inl rfl | exact Or.inr (Or.inl rfl) | exact Or.inr (Or.inr rfl)))) pss_nil)
theorem sc_BadSize_init : FnScope ["self", "size"] ["self", "size"] (defScope s_BadSize_init) := ⟨rfl, rfl, rfl, by decide +kernel, rfl, by decide +kernel, by decide +kernel⟩
theorem oe_BadSize {P : Program} {w : World} {K : PySem.W.Frag} {mg : Str → Option Value} {base : Heap} (T : Txt K mg) : ErrN P w K mg base "BadSize" 1 ["size"] :=
  errN_of (fj := [("size", 1)]) T.e_BadSize sc_BadSize_init rfl (by decide) rfl rfl (by decide) (by decide) fun f cdv A outer s H E =>
    (pss_cons (ps_ost (pe_var (i := 0) rfl (by first | exact Or.inl rfl | exact Or.inr (Or.inl rfl) | exact Or.inr (Or.inr rfl))) (pe_var (i := 1) rfl (by first | exact Or.inl rfl | exact Or.inr (Or.inl rfl) | exact Or.inr (Or.inr rfl)))) pss_nil)
theorem sc_NotConnected_init : FnScope ["self", "node"] ["self", "node"] (defScope s_NotConnected_init) := ⟨rfl, rfl, rfl, by decide +kernel, rfl, by decide +kernel, by decide +kernel⟩
theorem oe_NotConnected {P : Program} {w : World} {K : PySem.W.Frag} {mg : Str → Option Value} {base : Heap} (T : Txt K mg) : ErrN P w K mg base "NotConnected" 1 ["node"] :=
  errN_of (fj := [("node", 1)]) T.e_NotConnected sc_NotConnected_init rfl (by decide) rfl rfl (by decide) (by decide) fun f cdv A outer s H E =>
    (pss_cons (ps_ost (pe_var (i := 0) rfl (by first | exact Or.inl rfl | exact Or.inr (Or.inl rfl) | exact Or.inr (Or.inr rfl))) (pe_var (i := 1) rfl (by first | exact Or.inl rfl | exact Or.inr (Or.inl rfl) | exact Or.inr (Or.inr rfl)))) pss_nil)
theorem sc_law_digits : FnScope ["cell", "sizes", "row", "rest", "seed", "k", "size", "twice"] ["cell", "sizes"] (defScope s_law_digits) := ⟨rfl, rfl, rfl, by decide +kernel, rfl, by decide +kernel, by decide +kernel⟩
theorem ok_law_digits {P : Program} {w : World} {K : PySem.W.Frag} {mg : Str → Option Value} {base : Heap} (T : Txt K mg) : Keeps P w K mg base "_law_digits" 1 ["cell", "sizes"] 2 .ow m_law_digits :=
  keeps_of T.d_law_digits sc_law_digits (by decide) fun f cdv A outer s H E hr =>
    (js_cons (js_set 2 (je_lst (md := .ow) ja_nil) sc_law_digits.nd)
    (js_cons (js_set 3 (je_int_ T.z_int (ja_cons (je_var 0) ja_nil)) sc_law_digits.nd)
    (js_cons (js_if (jt_ge (je_var 3) (je_pow je_int je_int)) (js_cons (js_set 3 (je_sub (je_var 3) (je_pow je_int je_int)) sc_law_digits.nd)
    (js_cons (js_for (ji_seq (je_var 1)) (jg_name 6 sc_law_digits.nd) (jss_fgt [6] (js_cons (js_app 2 (je_mod (je_int_ T.z_int (ja_cons (je_var 3) ja_nil)) (je_var 6)))
    (js_one (js_set 3 (je_div (je_int_ T.z_int (ja_cons (je_var 3) ja_nil)) (je_var 6)) sc_law_digits.nd)))) (passes_of rfl))
    (js_one (js_retV 2)))) js_nil)
    (js_cons (js_set 4 (je_mod (je_int_ T.z_int (ja_cons (je_var 3) ja_nil)) je_int) sc_law_digits.nd)
    (js_cons (js_for (ji_range1 (ja_cons (je_len T.z_len (ja_cons (je_var 1) ja_nil)) ja_nil) T.z_range) (jg_name 5 sc_law_digits.nd) (jss_fgt [5, 7] (js_cons (js_set 4 (je_mod (je_int_ T.z_int (ja_cons (je_add (je_add (je_mulI (je_var 4) je_int) (je_mulI je_int (je_var 5))) je_int) ja_nil)) je_int) sc_law_digits.nd)
    (js_cons (js_set 7 (je_mod (je_int_ T.z_int (ja_cons (je_mulI (je_var 4) (je_add (je_div (je_var 4) je_int) je_int)) ja_nil)) je_int) sc_law_digits.nd)
    (js_one (js_app 2 (je_mod (je_div (je_var 7) je_int) (je_item (je_var 1) (je_var 5)))))))) (passes_of rfl))
    (js_one (js_retV 2)))))))
theorem sc_law_cell : FnScope ["script", "k", "seed", "cell"] ["script", "k"] (defScope s_law_cell) := ⟨rfl, rfl, rfl, by decide +kernel, rfl, by decide +kernel, by decide +kernel⟩
theorem ok_law_cell {P : Program} {w : World} {K : PySem.W.Frag} {mg : Str → Option Value} {base : Heap} (T : Txt K mg) : Keeps P w K mg base "_law_cell" 1 ["script", "k"] 2 .sh m_law_cell :=
  keeps_of T.d_law_cell sc_law_cell (by decide) fun f cdv A outer s H E hr =>
    (js_cons (js_if (jt_lt (je_var 1) (je_len T.z_len (ja_cons (je_var 0) ja_nil))) (js_one (js_ret (je_item (je_var 0) (je_var 1)))) js_nil)
    (js_cons (js_set 2 je_int sc_law_cell.nd)
    (js_cons (js_for (ji_seq (je_var 0)) (jg_name 3 sc_law_cell.nd) (jss_fgt [3] (js_one (js_set 2 (je_mod (je_int_ T.z_int (ja_cons (je_add (je_mulI (je_var 2) je_int) (je_mod (je_int_ T.z_int (ja_cons (je_var 3) ja_nil)) je_int)) ja_nil)) je_int) sc_law_cell.nd))) (passes_of rfl))
    (js_one (js_ret (je_mod (je_int_ T.z_int (ja_cons (je_mulI (je_mulI (je_add (je_var 2) je_int) (je_add (je_var 1) je_int)) je_int) ja_nil)) je_int))))))
theorem sc_law_closure : FnScope ["points", "steps", "found", "at", "step", "new", "k"] ["points", "steps"] (defScope s_law_closure) := ⟨rfl, rfl, rfl, by decide +kernel, rfl, by decide +kernel, by decide +kernel⟩
theorem ok_law_closure {P : Program} {w : World} {K : PySem.W.Frag} {mg : Str → Option Value} {base : Heap} (T : Txt K mg) : Keeps P w K mg base "_law_closure" 1 ["points", "steps"] 2 .sh m_law_closure :=
  keeps_of T.d_law_closure sc_law_closure (by decide) fun f cdv A outer s H E hr =>
    (js_cons (js_set 2 (je_lst (md := .ow) (ja_cons (je_tuple T.z_tuple (ja_cons (je_share (je_lc sc_law_closure [("k", 6)] (ji_range1 (ja_cons (je_var 0) ja_nil) T.z_range) (fun _ _ _ _ _ => (jg_name 6 sc_law_closure.nd)) (fun _ _ _ _ _ => jts_nil) (fun _ _ _ _ _ => (je_var 6)))) ja_nil)) ja_nil)) sc_law_closure.nd)
    (js_cons (js_for (ji_range1 (ja_cons je_int ja_nil) T.z_range) (jg_name 3 sc_law_closure.nd) (jss_fgt [3, 4, 5] (js_cons (js_if (jt_ge (je_var 3) (je_borrow (m1 := [.sh, .sh, .sh, .sh, .sh, .sh, .sh]) (je_len T.z_len (ja_cons (je_var 2) ja_nil)))) (js_one js_break) js_nil)
    (js_one (js_for (ji_seq (je_var 1)) (jg_name 4 sc_law_closure.nd) (jss_fgt [4, 5] (js_cons (js_set 5 (je_tuple T.z_tuple (ja_cons (je_share (je_lc sc_law_closure [("k", 6)] (ji_seq (je_itemO 2 (je_var 3))) (fun _ _ _ _ _ => (jg_name 6 sc_law_closure.nd)) (fun _ _ _ _ _ => jts_nil) (fun _ _ _ _ _ => (je_item (je_var 4) (je_var 6))))) ja_nil)) sc_law_closure.nd)
    (js_cons (js_fgt [] (js_if (jt_borrow (m1 := [.sh, .sh, .sh, .sh, .sh, .sh, .sh]) (jt_notIn hr.u (je_var 5) (je_var 2))) (js_one (js_app 2 (je_var 5))) js_nil))
    (js_one (js_if (jt_gt (je_borrow (m1 := [.sh, .sh, .sh, .sh, .sh, .sh, .sh]) (je_len T.z_len (ja_cons (je_var 2) ja_nil))) je_int) (js_one (js_ret je_non)) js_nil))))) (passes_of rfl))))) (passes_of rfl))
    (js_one (js_weak1 (m := [.sh, .sh, .ow, .sh, .sh, .sh, .sh]) (m1 := [.sh, .sh, .sh, .sh, .sh, .sh, .sh]) (js_ret (je_share (je_sorted hr.u T.z_sorted (ja_cons (je_var 2) ja_nil))))))))
theorem sc_frozen : FnScope ["value", "item"] ["value"] (defScope s_frozen) := ⟨rfl, rfl, rfl, by decide +kernel, rfl, by decide +kernel, by decide +kernel⟩
theorem okr_frozen {P : Program} {w : World} {K : PySem.W.Frag} {mg : Str → Option Value} {base : Heap} (T : Txt K mg) : ∀ n, Keeps P w K mg base "frozen" (0 + n) ["value"] 1 .sh (r_frozen n)
  | 0 => keeps_er T.d_frozen
  | n + 1 => by
    have IH := okr_frozen (P := P) (w := w) (base := base) T n
    exact keeps_of T.d_frozen sc_frozen (by decide) fun f cdv A outer s H E hr =>
    (js_cons (js_if (jt_tr (je_isi2 "list" "tuple" T.z_isinstance T.z_list T.z_tuple (je_var 0))) (js_one (js_ret (je_tuple T.z_tuple (ja_cons (je_share (je_lc sc_frozen [("item", 1)] (ji_seq (je_var 0)) (fun _ _ _ _ _ => (jg_name 1 sc_frozen.nd)) (fun _ _ _ _ _ => jts_nil) (fun _ _ _ _ _ => (je_call IH (hr.mono (Nat.le_refl _)) takesF (ja_cons (je_var 1) ja_nil))))) ja_nil)))) js_nil)
    (js_one (js_retV 0)))
theorem ok_frozen {P : Program} {w : World} {K : PySem.W.Frag} {mg : Str → Option Value} {base : Heap} (T : Txt K mg) : Keeps P w K mg base "frozen" 6 ["value"] 1 .sh m_frozen := okr_frozen T 6
theorem sc_is_number : FnScope ["value"] ["value"] (defScope s_is_number) := ⟨rfl, rfl, rfl, by decide +kernel, rfl, by decide +kernel, by decide +kernel⟩
theorem ok_is_number {P : Program} {w : World} {K : PySem.W.Frag} {mg : Str → Option Value} {base : Heap} (T : Txt K mg) : Keeps P w K mg base "is_number" 1 ["value"] 1 .sh m_is_number :=
  keeps_of T.d_is_number sc_is_number (by decide) fun f cdv A outer s H E hr =>
    (js_one (js_ret (je_and (je_isi "int" T.z_isinstance T.z_int (je_var 0)) (je_last (je_not (je_isi "bool" T.z_isinstance T.z_bool (je_var 0)))))))
theorem sc_is_perm : FnScope ["value", "size", "item"] ["value", "size"] (defScope s_is_perm) := ⟨rfl, rfl, rfl, by decide +kernel, rfl, by decide +kernel, by decide +kernel⟩
theorem ok_is_perm {P : Program} {w : World} {K : PySem.W.Frag} {mg : Str → Option Value} {base : Heap} (T : Txt K mg) : Keeps P w K mg base "is_perm" 7 ["value", "size"] 2 .sh m_is_perm :=
  keeps_of T.d_is_perm sc_is_perm (by decide) fun f cdv A outer s H E hr =>
    (js_cons (js_set 0 (je_call (ok_frozen T) (hr.mono (by decide)) (takes_of rfl rfl rfl rfl) (ja_cons (je_var 0) ja_nil)) sc_is_perm.nd)
    (js_cons (js_if (JW.jt (jw_or (jt_ne hr.u (je_len T.z_len (ja_cons (je_var 0) ja_nil)) (je_var 1)) (jw_or1 (jt_not (jt_tr (je_all T.z_all (ja_cons (je_share (je_lc sc_is_perm [("item", 2)] (ji_seq (je_var 0)) (fun _ _ _ _ _ => (jg_name 2 sc_is_perm.nd)) (fun _ _ _ _ _ => jts_nil) (fun _ _ _ _ _ => (je_call (ok_is_number T) (hr.mono (by decide)) takesF (ja_cons (je_var 2) ja_nil))))) ja_nil))))))) (js_one (js_ret je_bl)) js_nil)
    (js_one (js_ret (je_eq hr.u (je_share (je_sorted hr.u T.z_sorted (ja_cons (je_var 0) ja_nil))) (je_share (je_listR1 (md := .ow) T.z_list T.z_range (je_var 1))))))))
theorem sc_checked_steps : FnScope ["points", "steps", "index", "step"] ["points", "steps"] (defScope s_checked_steps) := ⟨rfl, rfl, rfl, by decide +kernel, rfl, by decide +kernel, by decide +kernel⟩
theorem ok_checked_steps {P : Program} {w : World} {K : PySem.W.Frag} {mg : Str → Option Value} {base : Heap} (T : Txt K mg) : Keeps P w K mg base "checked_steps" 8 ["points", "steps"] 2 .sh m_checked_steps :=
  keeps_of T.d_checked_steps sc_checked_steps (by decide) fun f cdv A outer s H E hr =>
    (js_cons (js_set 1 (je_call (ok_frozen T) (hr.mono (by decide)) (takes_of rfl rfl rfl rfl) (ja_cons (je_var 1) ja_nil)) sc_checked_steps.nd)
    (js_cons (js_for (ji_enum (ja_cons (je_var 1) ja_nil) T.z_enumerate) (jg_tup2 (jg_name 2 sc_checked_steps.nd) (jg_name 3 sc_checked_steps.nd)) (jss_fgt [2, 3] (js_one (js_if (jt_not (jt_tr (je_call (ok_is_perm T) (hr.mono (by decide)) (takes_of rfl rfl rfl rfl) (ja_cons (je_var 3) (ja_cons (je_var 0) ja_nil))))) (js_one (js_raiseN (oe_BadStep T) (hr.mono (by decide)) (takes_of rfl rfl rfl rfl) (ja_cons (je_var 2) ja_nil))) js_nil))) (passes_of rfl))
    (js_one (js_retV 1))))
theorem sc_identity : FnScope ["size"] ["size"] (defScope s_identity) := ⟨rfl, rfl, rfl, by decide +kernel, rfl, by decide +kernel, by decide +kernel⟩
theorem ok_identity {P : Program} {w : World} {K : PySem.W.Frag} {mg : Str → Option Value} {base : Heap} (T : Txt K mg) : Keeps P w K mg base "identity" 1 ["size"] 1 .sh m_identity :=
  keeps_of T.d_identity sc_identity (by decide) fun f cdv A outer s H E hr =>
    (js_one (js_ret (je_tupleR1 T.z_tuple T.z_range (je_var 0))))
theorem sc_composed : FnScope ["one", "two", "item"] ["one", "two"] (defScope s_composed) := ⟨rfl, rfl, rfl, by decide +kernel, rfl, by decide +kernel, by decide +kernel⟩
theorem ok_composed {P : Program} {w : World} {K : PySem.W.Frag} {mg : Str → Option Value} {base : Heap} (T : Txt K mg) : Keeps P w K mg base "composed" 1 ["one", "two"] 2 .sh m_composed :=
  keeps_of T.d_composed sc_composed (by decide) fun f cdv A outer s H E hr =>
    (js_one (js_ret (je_tuple T.z_tuple (ja_cons (je_share (je_lc sc_composed [("item", 2)] (ji_seq (je_var 0)) (fun _ _ _ _ _ => (jg_name 2 sc_composed.nd)) (fun _ _ _ _ _ => jts_nil) (fun _ _ _ _ _ => (je_item (je_var 1) (je_var 2))))) ja_nil))))
theorem sc_group : FnScope ["points", "steps", "found", "known", "at", "step", "new"] ["points", "steps"] (defScope s_group) := ⟨rfl, rfl, rfl, by decide +kernel, rfl, by decide +kernel, by decide +kernel⟩
theorem ok_group {P : Program} {w : World} {K : PySem.W.Frag} {mg : Str → Option Value} {base : Heap} (T : Txt K mg) : Keeps P w K mg base "group" 9 ["points", "steps"] 2 .sh m_group :=
  keeps_of T.d_group sc_group (by decide) fun f cdv A outer s H E hr =>
    (js_cons (js_set 1 (je_call (ok_checked_steps T) (hr.mono (by decide)) (takes_of rfl rfl rfl rfl) (ja_cons (je_var 0) (ja_cons (je_var 1) ja_nil))) sc_group.nd)
    (js_cons (js_set 2 (je_lst (md := .ow) (ja_cons (je_call (ok_identity T) (hr.mono (by decide)) (takes_of rfl rfl rfl rfl) (ja_cons (je_var 0) ja_nil)) ja_nil)) sc_group.nd)
    (js_cons (js_set 3 (je_disp1T hr.u (je_call (ok_identity T) (hr.mono (by decide)) (takes_of rfl rfl rfl rfl) (ja_cons (je_var 0) ja_nil)) je_bl) sc_group.nd)
    (js_cons (js_set 4 je_int sc_group.nd)
    (js_cons (js_while (jt_lt (je_var 4) (je_borrow (m1 := [.sh, .sh, .sh, .sh, .sh, .sh, .sh]) (je_len T.z_len (ja_cons (je_var 2) ja_nil)))) (jss_fgt [5, 6] (js_cons (js_for (ji_seq (je_var 1)) (jg_name 5 sc_group.nd) (jss_fgt [5, 6] (js_cons (js_set 6 (je_call (ok_composed T) (hr.mono (by decide)) (takes_of rfl rfl rfl rfl) (ja_cons (je_itemO 2 (je_var 4)) (ja_cons (je_var 5) ja_nil))) sc_group.nd)
    (js_cons (js_fgt [] (js_if (jt_borrow (m1 := [.sh, .sh, .sh, .sh, .sh, .sh, .sh]) (jt_dhasnotT hr.u (je_var 6) (je_var 3))) (js_cons (js_dputT 3 hr.u je_bl (je_var 6))
    (js_one (js_app 2 (je_var 6)))) js_nil))
    (js_one (js_if (jt_gt (je_borrow (m1 := [.sh, .sh, .sh, .sh, .sh, .sh, .sh]) (je_len T.z_len (ja_cons (je_var 2) ja_nil))) (je_globI T.c_MOST_NODES)) (js_one (js_raiseN (oe_TooLarge T) (hr.mono (by decide)) (takes_of rfl rfl rfl rfl) (ja_cons (je_globI T.c_MOST_NODES) ja_nil))) js_nil))))) (passes_of rfl))
    (js_one (js_aug 4 ip_add je_int sc_group.nd)))) (passes_of rfl))
    (js_one (js_weak1 (m := [.sh, .sh, .ow, .dt, .sh, .sh, .sh]) (m1 := [.sh, .sh, .sh, .dt, .sh, .sh, .sh]) (js_ret (je_tuple T.z_tuple (ja_cons (je_share (je_sorted hr.u T.z_sorted (ja_cons (je_var 2) ja_nil))) ja_nil))))))))))
theorem sc_node_numbers : FnScope ["members", "node", "member"] ["members"] (defScope s_node_numbers) := ⟨rfl, rfl, rfl, by decide +kernel, rfl, by decide +kernel, by decide +kernel⟩
theorem ok_node_numbers {P : Program} {w : World} {K : PySem.W.Frag} {mg : Str → Option Value} {base : Heap} (T : Txt K mg) : Keeps P w K mg base "node_numbers" 1 ["members"] 1 .sh m_node_numbers :=
  keeps_of T.d_node_numbers sc_node_numbers (by decide) fun f cdv A outer s H E hr =>
    (js_one (js_ret (je_share (je_dcT hr.u sc_node_numbers [("node", 1), ("member", 2)] (ji_enum (ja_cons (je_var 0) ja_nil) T.z_enumerate) (fun _ _ _ _ _ => (jg_tup2 (jg_name 1 sc_node_numbers.nd) (jg_name 2 sc_node_numbers.nd))) (fun _ _ _ _ _ => jts_nil) (fun _ _ _ _ _ => (je_var 2)) (fun _ _ _ _ _ => (je_var 1))))))
theorem sc_is_link : FnScope ["size", "link", "node"] ["size", "link"] (defScope s_is_link) := ⟨rfl, rfl, rfl, by decide +kernel, rfl, by decide +kernel, by decide +kernel⟩
theorem ok_is_link {P : Program} {w : World} {K : PySem.W.Frag} {mg : Str → Option Value} {base : Heap} (T : Txt K mg) : Keeps P w K mg base "is_link" 2 ["size", "link"] 2 .sh m_is_link :=
  keeps_of T.d_is_link sc_is_link (by decide) fun f cdv A outer s H E hr =>
    (js_cons (js_if (JW.jt (jw_or (jt_ne hr.u (je_len T.z_len (ja_cons (je_var 1) ja_nil)) je_int) (jw_or1 (jt_eq hr.u (je_item (je_var 1) je_int) (je_item (je_var 1) je_int))))) (js_one (js_ret je_bl)) js_nil)
    (js_one (js_ret (je_all T.z_all (ja_cons (je_share (je_lc sc_is_link [("node", 2)] (ji_seq (je_var 1)) (fun _ _ _ _ _ => (jg_name 2 sc_is_link.nd)) (fun _ _ _ _ _ => jts_nil) (fun _ _ _ _ _ => (je_and (je_call (ok_is_number T) (hr.mono (by decide)) takesF (ja_cons (je_var 2) ja_nil)) (je_last (je_chain op_le op_lt opd_P opd_P je_int (je_var 2) (je_var 0))))))) ja_nil)))))
theorem sc_checked_links : FnScope ["size", "links", "index", "link", "a", "b"] ["size", "links"] (defScope s_checked_links) := ⟨rfl, rfl, rfl, by decide +kernel, rfl, by decide +kernel, by decide +kernel⟩
theorem ok_checked_links {P : Program} {w : World} {K : PySem.W.Frag} {mg : Str → Option Value} {base : Heap} (T : Txt K mg) : Keeps P w K mg base "checked_links" 3 ["size", "links"] 2 .sh m_checked_links :=
  keeps_of T.d_checked_links sc_checked_links (by decide) fun f cdv A outer s H E hr =>
    (js_cons (js_for (ji_enum (ja_cons (je_var 1) ja_nil) T.z_enumerate) (jg_tup2 (jg_name 2 sc_checked_links.nd) (jg_name 3 sc_checked_links.nd)) (jss_fgt [2, 3] (js_one (js_if (jt_not (jt_tr (je_call (ok_is_link T) (hr.mono (by decide)) (takes_of rfl rfl rfl rfl) (ja_cons (je_var 0) (ja_cons (je_var 3) ja_nil))))) (js_one (js_raiseN (oe_BadLink T) (hr.mono (by decide)) (takes_of rfl rfl rfl rfl) (ja_cons (je_var 2) ja_nil))) js_nil))) (passes_of rfl))
    (js_one (js_ret (je_tuple T.z_tuple (ja_cons (je_share (je_sortSc (hr := hr.u) (hmS := T.z_sorted) sc_checked_links [("a", 4), ("b", 5)] (ji_seq (je_var 1)) (fun _ _ _ _ _ => (jg_tup2 (jg_name 4 sc_checked_links.nd) (jg_name 5 sc_checked_links.nd))) (fun _ _ _ _ _ => jts_nil) (fun _ _ _ _ _ => (je_tup (ja_cons (je_min2 T.z_min (ja_cons (je_var 4) (ja_cons (je_var 5) ja_nil))) (ja_cons (je_max2 T.z_max (ja_cons (je_var 4) (ja_cons (je_var 5) ja_nil))) ja_nil)))))) ja_nil)))))
theorem sc_near_nodes : FnScope ["size", "links", "near", "a", "b", "node", "row"] ["size", "links"] (defScope s_near_nodes) := ⟨rfl, rfl, rfl, by decide +kernel, rfl, by decide +kernel, by decide +kernel⟩
theorem ok_near_nodes {P : Program} {w : World} {K : PySem.W.Frag} {mg : Str → Option Value} {base : Heap} (T : Txt K mg) : Keeps P w K mg base "near_nodes" 1 ["size", "links"] 2 .sh m_near_nodes :=
  keeps_of T.d_near_nodes sc_near_nodes (by decide) fun f cdv A outer s H E hr =>
    (js_cons (js_setLcT 1 2 sc_near_nodes [("node", 5)] (ji_range1 (ja_cons (je_var 0) ja_nil) T.z_range) (fun _ _ _ _ _ => (jg_name 5 sc_near_nodes.nd)) (fun _ _ _ _ _ => jts_nil) (fun _ _ _ _ _ => (je_lstT 0)))
    (js_cons (js_for (ji_seq (je_var 1)) (jg_tup2 (jg_name 3 sc_near_nodes.nd) (jg_name 4 sc_near_nodes.nd)) (jss_fgt [3, 4] (js_cons (js_app2T 0 2 (je_var 3) (je_var 4))
    (js_one (js_app2T 0 2 (je_var 4) (je_var 3))))) (passes_of rfl))
    (js_one (js_weak1 (m := [.sh, .sh, .tr 2 none none, .sh, .sh, .sh, .sh]) (m1 := [.sh, .sh, .sh, .sh, .sh, .sh, .sh]) (js_ret (je_tuple T.z_tuple (ja_cons (je_share (je_lc sc_near_nodes [("row", 6)] (ji_seq (je_var 2)) (fun _ _ _ _ _ => (jg_name 6 sc_near_nodes.nd)) (fun _ _ _ _ _ => jts_nil) (fun _ _ _ _ _ => (je_tuple T.z_tuple (ja_cons (je_share (je_sorted hr.u T.z_sorted (ja_cons (je_var 6) ja_nil))) ja_nil))))) ja_nil)))))))
theorem sc_lanes_of : FnScope ["near", "a", "b"] ["near"] (defScope s_lanes_of) := ⟨rfl, rfl, rfl, by decide +kernel, rfl, by decide +kernel, by decide +kernel⟩
theorem ok_lanes_of {P : Program} {w : World} {K : PySem.W.Frag} {mg : Str → Option Value} {base : Heap} (T : Txt K mg) : Keeps P w K mg base "lanes_of" 1 ["near"] 1 .sh m_lanes_of :=
  keeps_of T.d_lanes_of sc_lanes_of (by decide) fun f cdv A outer s H E hr =>
    (js_one (js_ret (je_tuple T.z_tuple (ja_cons (je_share (je_lc2 sc_lanes_of [("a", 1), ("b", 2)] [2] (ji_range1 (ja_cons (je_len T.z_len (ja_cons (je_var 0) ja_nil)) ja_nil) T.z_range) (fun _ _ _ _ _ => (jg_name 1 sc_lanes_of.nd)) (fun _ _ _ _ _ => jts_nil) (fun _ _ _ _ _ => (ji_seq (je_item (je_var 0) (je_var 1)))) (fun _ _ _ _ _ => (jg_name 2 sc_lanes_of.nd)) (fun _ _ _ _ _ => jts_nil) (fun _ _ _ _ _ => (je_tup (ja_cons (je_var 1) (ja_cons (je_var 2) ja_nil)))))) ja_nil))))
theorem sc_reached : FnScope ["size", "links", "start", "known", "waiting", "node", "a", "b"] ["size", "links", "start"] (defScope s_reached) := ⟨rfl, rfl, rfl, by decide +kernel, rfl, by decide +kernel, by decide +kernel⟩
theorem ok_reached {P : Program} {w : World} {K : PySem.W.Frag} {mg : Str → Option Value} {base : Heap} (T : Txt K mg) : Keeps P w K mg base "reached" 1 ["size", "links", "start"] 3 .sh m_reached :=
  keeps_of T.d_reached sc_reached (by decide) fun f cdv A outer s H E hr =>
    (js_cons (js_set 3 (je_lc sc_reached [("node", 5)] (ji_range1 (ja_cons (je_var 0) ja_nil) T.z_range) (fun _ _ _ _ _ => (jg_name 5 sc_reached.nd)) (fun _ _ _ _ _ => jts_nil) (fun _ _ _ _ _ => je_bl)) sc_reached.nd)
    (js_cons (js_setix 3 je_bl (je_var 2))
    (js_cons (js_set 4 (je_lst (md := .ow) (ja_cons (je_var 2) ja_nil)) sc_reached.nd)
    (js_cons (js_while (jt_borrow (m1 := [.sh, .sh, .sh, .sh, .sh, .sh, .sh, .sh]) (jt_tr (je_var 4))) (jss_fgt [5, 6, 7] (js_cons (js_setX 5 (jx_pop0 4) sc_reached.nd)
    (js_one (js_for (ji_seq (je_var 1)) (jg_tup2 (jg_name 6 sc_reached.nd) (jg_name 7 sc_reached.nd)) (jss_fgt [6, 7] (js_cons (js_fgt [] (js_if (JW.jt (jw_and (jt_eq hr.u (je_var 6) (je_var 5)) (jw_and1 (jt_not (jt_tr (je_itemO 3 (je_var 7))))))) (js_cons (js_setix 3 je_bl (je_var 7))
    (js_one (js_app 4 (je_var 7)))) js_nil))
    (js_one (js_fgt [] (js_if (JW.jt (jw_and (jt_eq hr.u (je_var 7) (je_var 5)) (jw_and1 (jt_not (jt_tr (je_itemO 3 (je_var 6))))))) (js_cons (js_setix 3 je_bl (je_var 6))
    (js_one (js_app 4 (je_var 6)))) js_nil))))) (passes_of rfl))))) (passes_of rfl))
    (js_one (js_ret (je_tuple T.z_tuple (ja_cons (je_share (je_lc sc_reached [("node", 5)] (ji_range1 (ja_cons (je_var 0) ja_nil) T.z_range) (fun _ _ _ _ _ => (jg_name 5 sc_reached.nd)) (fun _ _ _ _ _ => (jts_one (jt_tr (je_itemO 3 (je_var 5))))) (fun _ _ _ _ _ => (je_var 5)))) ja_nil))))))))
theorem sc_Net_init : FnScope ["self", "size", "links", "known", "node"] ["self", "size", "links"] (defScope s_Net_init) := ⟨rfl, rfl, rfl, by decide +kernel, rfl, by decide +kernel, by decide +kernel⟩
theorem ok_Net_init {P : Program} {w : World} {K : PySem.W.Frag} {mg : Str → Option Value} {base : Heap} (T : Txt K mg) : KeepsI P w K mg base "Net" 7 ["self", "size", "links"] 2 m_Net_init :=
  keepsI_of T.d_Net_init sc_Net_init (by decide) rfl fun f p cdv A outer s H E hr =>
    (js_cons (js_if (jt_not (jt_chain op_le op_le opd_P opd_P je_int (je_var 1) (je_globI T.c_MOST_NODES))) (js_one (js_raiseN (oe_BadSize T) (hr.mono (by decide)) (takes_of rfl rfl rfl rfl) (ja_cons (je_var 1) ja_nil))) js_nil)
    (js_cons (js_fld "Net" 0 T.f_Net_size (je_var 1))
    (js_cons (js_fld "Net" 0 T.f_Net_links (je_call (ok_checked_links T) (hr.mono (by decide)) (takes_of rfl rfl rfl rfl) (ja_cons (je_var 1) (ja_cons (je_call (ok_frozen T) (hr.mono (by decide)) (takes_of rfl rfl rfl rfl) (ja_cons (je_var 2) ja_nil)) ja_nil))))
    (js_cons (js_fld "Net" 0 T.f_Net_near (je_call (ok_near_nodes T) (hr.mono (by decide)) (takes_of rfl rfl rfl rfl) (ja_cons (je_var 1) (ja_cons (je_fldO "Net" 0 T.f_Net_links) ja_nil))))
    (js_cons (js_fld "Net" 0 T.f_Net_lane_row (je_call (ok_lanes_of T) (hr.mono (by decide)) (takes_of rfl rfl rfl rfl) (ja_cons (je_fldO "Net" 0 T.f_Net_near) ja_nil)))
    (js_cons (js_set 3 (je_call (ok_reached T) (hr.mono (by decide)) (takes_of rfl rfl rfl rfl) (ja_cons (je_var 1) (ja_cons (je_fldO "Net" 0 T.f_Net_links) (ja_cons je_int ja_nil)))) sc_Net_init.nd)
    (js_one (js_for (ji_range1 (ja_cons (je_var 1) ja_nil) T.z_range) (jg_name 4 sc_Net_init.nd) (jss_fgt [4] (js_one (js_if (jt_notIn hr.u (je_var 4) (je_var 3)) (js_one (js_raiseN (oe_NotConnected T) (hr.mono (by decide)) (takes_of rfl rfl rfl rfl) (ja_cons (je_var 4) ja_nil))) js_nil))) (passes_of rfl)))))))))
theorem sc_step_net : FnScope ["points", "steps", "members", "node", "links", "member", "step", "other"] ["points", "steps"] (defScope s_step_net) := ⟨rfl, rfl, rfl, by decide +kernel, rfl, by decide +kernel, by decide +kernel⟩
theorem ok_step_net {P : Program} {w : World} {K : PySem.W.Frag} {mg : Str → Option Value} {base : Heap} (T : Txt K mg) : Keeps P w K mg base "step_net" 10 ["points", "steps"] 2 .sh m_step_net :=
  keeps_of T.d_step_net sc_step_net (by decide) fun f cdv A outer s H E hr =>
    (js_cons (js_set 2 (je_call (ok_group T) (hr.mono (by decide)) (takes_of rfl rfl rfl rfl) (ja_cons (je_var 0) (ja_cons (je_var 1) ja_nil))) sc_step_net.nd)
    (js_cons (js_set 3 (je_call (ok_node_numbers T) (hr.mono (by decide)) (takes_of rfl rfl rfl rfl) (ja_cons (je_var 2) ja_nil)) sc_step_net.nd)
    (js_cons (js_set 4 (je_lst (md := .ow) ja_nil) sc_step_net.nd)
    (js_cons (js_for (ji_seq (je_var 2)) (jg_name 5 sc_step_net.nd) (jss_fgt [5, 6, 7] (js_one (js_for (ji_seq (je_call (ok_frozen T) (hr.mono (by decide)) (takes_of rfl rfl rfl rfl) (ja_cons (je_var 1) ja_nil))) (jg_name 6 sc_step_net.nd) (jss_fgt [6, 7] (js_cons (js_set 7 (je_call (ok_composed T) (hr.mono (by decide)) (takes_of rfl rfl rfl rfl) (ja_cons (je_var 5) (ja_cons (je_var 6) ja_nil))) sc_step_net.nd)
    (js_one (js_fgt [] (js_if (jt_ne hr.u (je_var 7) (je_var 5)) (js_one (js_app 4 (je_tup (ja_cons (je_dgetT hr.u (je_var 3) (je_var 5)) (ja_cons (je_dgetT hr.u (je_var 3) (je_var 7)) ja_nil))))) js_nil))))) (passes_of rfl)))) (passes_of rfl))
    (js_one (js_weak1 (m := [.sh, .sh, .sh, .sh, .ow, .sh, .sh, .sh]) (m1 := [.sh, .sh, .sh, .sh, .sh, .sh, .sh, .sh]) (js_ret (je_make (ok_Net_init T) (hr.mono (by decide)) (takes_of rfl rfl rfl rfl) (ja_cons (je_len T.z_len (ja_cons (je_var 2) ja_nil)) (ja_cons (je_var 4) ja_nil))))))))))
theorem sc_step_turns : FnScope ["points", "steps", "members", "node", "g", "member"] ["points", "steps"] (defScope s_step_turns) := ⟨rfl, rfl, rfl, by decide +kernel, rfl, by decide +kernel, by decide +kernel⟩
theorem ok_step_turns {P : Program} {w : World} {K : PySem.W.Frag} {mg : Str → Option Value} {base : Heap} (T : Txt K mg) : Keeps P w K mg base "step_turns" 10 ["points", "steps"] 2 .sh m_step_turns :=
  keeps_of T.d_step_turns sc_step_turns (by decide) fun f cdv A outer s H E hr =>
    (js_cons (js_set 2 (je_call (ok_group T) (hr.mono (by decide)) (takes_of rfl rfl rfl rfl) (ja_cons (je_var 0) (ja_cons (je_var 1) ja_nil))) sc_step_turns.nd)
    (js_cons (js_set 3 (je_call (ok_node_numbers T) (hr.mono (by decide)) (takes_of rfl rfl rfl rfl) (ja_cons (je_var 2) ja_nil)) sc_step_turns.nd)
    (js_one (js_ret (je_tuple T.z_tuple (ja_cons (je_share (je_lc sc_step_turns [("g", 4)] (ji_seq (je_var 2)) (fun _ _ _ _ _ => (jg_name 4 sc_step_turns.nd)) (fun _ _ _ _ _ => jts_nil) (fun _ _ _ _ _ => (je_tuple T.z_tuple (ja_cons (je_share (je_lcB sc_step_turns [("member", 5)] (ji_seq (je_var 2)) (fun _ _ _ _ _ => (jg_name 5 sc_step_turns.nd)) (fun _ _ _ _ _ => jts_nil) (fun _ _ _ _ _ => (je_dgetT hr.u (je_var 3) (je_call (ok_composed T) (hr.mono (by decide)) takesF (ja_cons (je_var 4) (ja_cons (je_var 5) ja_nil))))))) ja_nil))))) ja_nil))))))
theorem sc_law_asked : FnScope ["door", "points", "steps", "e", "kinds"] ["door", "points", "steps"] (defScope s_law_asked) := ⟨rfl, rfl, rfl, by decide +kernel, rfl, by decide +kernel, by decide +kernel⟩
theorem ok_law_asked {P : Program} {w : World} {K : PySem.W.Frag} {mg : Str → Option Value} {base : Heap} (T : Txt K mg) : Keeps P w K mg base "_law_asked" 11 ["door", "points", "steps"] 3 .sh m_law_asked :=
  keeps_of T.d_law_asked sc_law_asked (by decide) fun f cdv A outer s H E hr =>
    (js_one (js_tryN 3 5 (takes_of rfl rfl rfl rfl) T.h_BookError (fun W pn xe tk1 po1 => (js_cons (js_if (jt_eq hr.u (je_var 0) je_int) (js_one (js_ret (je_share (je_lst (md := .ow) (ja_cons je_str (ja_cons (je_fld "Net" T.f_Net_size (je_call (ok_step_net T) (hr.mono (by decide)) tk1 (ja_cons (je_var 1) (ja_cons (je_var 2) ja_nil)))) ja_nil)))))) js_nil)
    (js_cons (js_if (jt_eq hr.u (je_var 0) je_int) (js_one (js_ret (je_share (je_lst (md := .ow) (ja_cons je_str (ja_cons (je_len T.z_len (ja_cons (je_call (ok_step_turns T) (hr.mono (by decide)) tk1 (ja_cons (je_var 1) (ja_cons (je_var 2) ja_nil))) ja_nil)) ja_nil)))))) js_nil)
    (js_one (js_ret (je_share (je_lst (md := .ow) (ja_cons je_str (ja_cons (je_call (ok_group T) (hr.mono (by decide)) tk1 (ja_cons (je_var 1) (ja_cons (je_var 2) ja_nil))) ja_nil))))))))) (fun a oe cls d pn hz hf => (js_cons (js_set 4 (je_lst (md := .ow) (ja_cons (je_isEO 3 hz hf T.z_isinstance T.y_BadStep T.xc) (ja_cons (je_isEO 3 hz hf T.z_isinstance T.y_TooLarge T.xc) (ja_cons (je_isEO 3 hz hf T.z_isinstance T.y_BadSize T.xc) (ja_cons (je_not (je_isEB 3 "ValueError" hz hf T.z_isinstance T.z_ValueError T.y_ValueError (ErrsC.of T.xc (by decide)))) ja_nil))))) sc_law_asked.nd)
    (js_cons (js_if (jt_borrow (m1 := msh 5) (jt_eq hr.u (je_var 4) (je_share (je_lst (md := .ow) (ja_cons je_bl (ja_cons je_bl (ja_cons je_bl (ja_cons je_bl ja_nil)))))))) (js_one (js_ret (je_share (je_lst (md := .ow) (ja_cons je_str (ja_cons (je_fldE 3 hz hf T.x_index) ja_nil)))))) js_nil)
    (js_cons (js_if (jt_borrow (m1 := msh 5) (jt_eq hr.u (je_var 4) (je_share (je_lst (md := .ow) (ja_cons je_bl (ja_cons je_bl (ja_cons je_bl (ja_cons je_bl ja_nil)))))))) (js_one (js_ret (je_share (je_lst (md := .ow) (ja_cons je_str (ja_cons (je_fldE 3 hz hf T.x_limit) ja_nil)))))) js_nil)
    (js_one (js_ret (je_share (je_lst (md := .ow) (ja_cons je_str ja_nil))))))))) sc_law_asked.nd))
theorem sc_law_whole : FnScope ["value"] ["value"] (defScope s_law_whole) := ⟨rfl, rfl, rfl, by decide +kernel, rfl, by decide +kernel, by decide +kernel⟩
theorem ok_law_whole {P : Program} {w : World} {K : PySem.W.Frag} {mg : Str → Option Value} {base : Heap} (T : Txt K mg) : Keeps P w K mg base "_law_whole" 1 ["value"] 1 .sh m_law_whole :=
  keeps_of T.d_law_whole sc_law_whole (by decide) fun f cdv A outer s H E hr =>
    (js_one (js_ret (je_and (je_isi "int" T.z_isinstance T.z_int (je_var 0)) (je_last (je_not (je_isi "bool" T.z_isinstance T.z_bool (je_var 0)))))))
theorem sc_law_same : FnScope ["value", "due", "k"] ["value", "due"] (defScope s_law_same) := ⟨rfl, rfl, rfl, by decide +kernel, rfl, by decide +kernel, by decide +kernel⟩
theorem okr_law_same {P : Program} {w : World} {K : PySem.W.Frag} {mg : Str → Option Value} {base : Heap} (T : Txt K mg) : ∀ n, Keeps P w K mg base "_law_same" (1 + n) ["value", "due"] 2 .sh (r_law_same n)
  | 0 => keeps_er T.d_law_same
  | n + 1 => by
    have IH := okr_law_same (P := P) (w := w) (base := base) T n
    exact keeps_of T.d_law_same sc_law_same (by decide) fun f cdv A outer s H E hr =>
    (js_cons (js_if (JW.jt (jw_or (jt_tr (je_isi "tuple" T.z_isinstance T.z_tuple (je_var 1))) (jw_or1 (jt_tr (je_isi "list" T.z_isinstance T.z_list (je_var 1)))))) (js_cons (js_if (JW.jt (jw_or (jt_not (jt_tr (je_isi "tuple" T.z_isinstance T.z_tuple (je_var 0)))) (jw_or1 (jt_ne hr.u (je_len T.z_len (ja_cons (je_var 0) ja_nil)) (je_len T.z_len (ja_cons (je_var 1) ja_nil)))))) (js_one (js_ret je_bl)) js_nil)
    (js_cons (js_for (ji_range1 (ja_cons (je_len T.z_len (ja_cons (je_var 1) ja_nil)) ja_nil) T.z_range) (jg_name 2 sc_law_same.nd) (jss_fgt [2] (js_one (js_if (jt_not (jt_tr (je_call IH (hr.mono (Nat.le_refl _)) (takes_of rfl rfl rfl rfl) (ja_cons (je_item (je_var 0) (je_var 2)) (ja_cons (je_item (je_var 1) (je_var 2)) ja_nil))))) (js_one (js_ret je_bl)) js_nil))) (passes_of rfl))
    (js_one (js_ret je_bl)))) js_nil)
    (js_cons (js_if (jt_isN (je_var 1)) (js_one (js_ret (je_isN (je_var 0)))) js_nil)
    (js_cons (js_if (jt_isB (je_var 1)) (js_one (js_ret (je_isB (je_var 0)))) js_nil)
    (js_cons (js_if (jt_isB (je_var 1)) (js_one (js_ret (je_isB (je_var 0)))) js_nil)
    (js_cons (js_if (jt_tr (je_isi "str" T.z_isinstance T.z_str (je_var 1))) (js_one (js_ret (je_and (je_isi "str" T.z_isinstance T.z_str (je_var 0)) (je_last (je_eq hr.u (je_var 0) (je_var 1)))))) js_nil)
    (js_one (js_ret (je_and (je_call (ok_law_whole T) (hr.mono (Nat.le_trans (show 1 ≤ 1 by decide) (Nat.le_add_right 1 n))) (takes_of rfl rfl rfl rfl) (ja_cons (je_var 0) ja_nil)) (je_last (je_eq hr.u (je_var 0) (je_var 1)))))))))))
theorem ok_law_same {P : Program} {w : World} {K : PySem.W.Frag} {mg : Str → Option Value} {base : Heap} (T : Txt K mg) : Keeps P w K mg base "_law_same" 7 ["value", "due"] 2 .sh m_law_same := okr_law_same T 6
theorem sc_law_told : FnScope ["points", "steps", "due", "handed", "told", "doors", "step"] ["points", "steps"] (defScope s_law_told) := ⟨rfl, rfl, rfl, by decide +kernel, rfl, by decide +kernel, by decide +kernel⟩
theorem ok_law_told {P : Program} {w : World} {K : PySem.W.Frag} {mg : Str → Option Value} {base : Heap} (T : Txt K mg) : Keeps P w K mg base "_law_told" 12 ["points", "steps"] 2 .sh m_law_told :=
  keeps_of T.d_law_told sc_law_told (by decide) fun f cdv A outer s H E hr =>
    (js_cons (js_set 2 (je_call (ok_law_closure T) (hr.mono (by decide)) (takes_of rfl rfl rfl rfl) (ja_cons (je_var 0) (ja_cons (je_var 1) ja_nil))) sc_law_told.nd)
    (js_cons (js_setLc 3 sc_law_told [("step", 6)] (ji_seq (je_var 1)) (fun _ _ _ _ _ => (jg_name 6 sc_law_told.nd)) (fun _ _ _ _ _ => jts_nil) (fun _ _ _ _ _ => (je_share ((je_list (md := .ow)) T.z_list (ja_cons (je_var 6) ja_nil)))))
    (js_cons (js_weak1 (m := [.sh, .sh, .sh, .ow, .sh, .sh, .sh]) (m1 := [.sh, .sh, .sh, .sh, .sh, .sh, .sh]) (js_set 4 (je_call (ok_law_asked T) (hr.mono (by decide)) (takes_of rfl rfl rfl rfl) (ja_cons je_int (ja_cons (je_var 0) (ja_cons (je_var 3) ja_nil)))) sc_law_told.nd))
    (js_cons (js_if (jt_isN (je_var 2)) (js_cons (js_set 5 (je_lst (md := .ow) (ja_cons (je_call (ok_law_asked T) (hr.mono (by decide)) (takes_of rfl rfl rfl rfl) (ja_cons je_int (ja_cons (je_var 0) (ja_cons (je_var 3) ja_nil)))) (ja_cons (je_call (ok_law_asked T) (hr.mono (by decide)) (takes_of rfl rfl rfl rfl) (ja_cons je_int (ja_cons (je_var 0) (ja_cons (je_var 1) ja_nil)))) ja_nil))) sc_law_told.nd)
    (js_one (js_ret (je_and (je_eq hr.u (je_var 4) (je_share (je_lst (md := .ow) (ja_cons je_str (ja_cons je_int ja_nil))))) (je_last (je_borrow (m1 := [.sh, .sh, .sh, .sh, .sh, .sh, .sh]) (je_eq hr.u (je_var 5) (je_share (je_lst (md := .ow) (ja_cons (je_share (je_lst (md := .ow) (ja_cons je_str (ja_cons je_int ja_nil)))) (ja_cons (je_share (je_lst (md := .ow) (ja_cons je_str (ja_cons je_int ja_nil)))) ja_nil))))))))))) js_nil)
    (js_one (js_ret (je_and (je_eq hr.u (je_item (je_var 4) je_int) je_str) (je_and (je_call (ok_law_same T) (hr.mono (by decide)) (takes_of rfl rfl rfl rfl) (ja_cons (je_item (je_var 4) je_int) (ja_cons (je_var 2) ja_nil))) (je_last (je_eq hr.u (je_var 3) (je_share (je_lc sc_law_told [("step", 6)] (ji_seq (je_var 1)) (fun _ _ _ _ _ => (jg_name 6 sc_law_told.nd)) (fun _ _ _ _ _ => jts_nil) (fun _ _ _ _ _ => (je_share ((je_list (md := .ow)) T.z_list (ja_cons (je_var 6) ja_nil))))))))))))))))
theorem sc_law_day : FnScope ["size", "row", "left", "day", "k"] ["size", "row"] (defScope s_law_day) := ⟨rfl, rfl, rfl, by decide +kernel, rfl, by decide +kernel, by decide +kernel⟩
theorem ok_law_day {P : Program} {w : World} {K : PySem.W.Frag} {mg : Str → Option Value} {base : Heap} (T : Txt K mg) : Keeps P w K mg base "_law_day" 1 ["size", "row"] 2 .sh m_law_day :=
  keeps_of T.d_law_day sc_law_day (by decide) fun f cdv A outer s H E hr =>
    (js_cons (js_setLc 2 sc_law_day [("k", 4)] (ji_range1 (ja_cons (je_var 0) ja_nil) T.z_range) (fun _ _ _ _ _ => (jg_name 4 sc_law_day.nd)) (fun _ _ _ _ _ => jts_nil) (fun _ _ _ _ _ => (je_var 4)))
    (js_cons (js_set 3 (je_lst (md := .ow) ja_nil) sc_law_day.nd)
    (js_cons (js_for (ji_range1 (ja_cons (je_var 0) ja_nil) T.z_range) (jg_name 4 sc_law_day.nd) (jss_fgt [4] (js_one (js_appX 3 (jx_pop 2 (je_mod (je_int_ T.z_int (ja_cons (je_item (je_var 1) (je_var 4)) ja_nil)) (je_borrow (m1 := [.sh, .sh, .sh, .sh, .sh]) (je_len T.z_len (ja_cons (je_var 2) ja_nil)))))))) (passes_of rfl))
    (js_one (js_weak1 (m := [.sh, .sh, .ow, .ow, .sh]) (m1 := [.sh, .sh, .ow, .sh, .sh]) (js_ret (je_tuple T.z_tuple (ja_cons (je_var 3) ja_nil))))))))
theorem sc_law_cycles : FnScope ["points", "names", "cycles", "mine", "cycle", "k"] ["points", "names", "cycles"] (defScope s_law_cycles) := ⟨rfl, rfl, rfl, by decide +kernel, rfl, by decide +kernel, by decide +kernel⟩
theorem ok_law_cycles {P : Program} {w : World} {K : PySem.W.Frag} {mg : Str → Option Value} {base : Heap} (T : Txt K mg) : Keeps P w K mg base "_law_cycles" 1 ["points", "names", "cycles"] 3 .sh m_law_cycles :=
  keeps_of T.d_law_cycles sc_law_cycles (by decide) fun f cdv A outer s H E hr =>
    (js_cons (js_setLc 3 sc_law_cycles [("k", 5)] (ji_range1 (ja_cons (je_var 0) ja_nil) T.z_range) (fun _ _ _ _ _ => (jg_name 5 sc_law_cycles.nd)) (fun _ _ _ _ _ => jts_nil) (fun _ _ _ _ _ => (je_var 5)))
    (js_cons (js_for (ji_seq (je_var 2)) (jg_name 4 sc_law_cycles.nd) (jss_fgt [4, 5] (js_one (js_for (ji_range1 (ja_cons (je_len T.z_len (ja_cons (je_var 4) ja_nil)) ja_nil) T.z_range) (jg_name 5 sc_law_cycles.nd) (jss_fgt [5] (js_one (js_setix 3 (je_item (je_var 1) (je_item (je_var 4) (je_mod (je_add (je_var 5) je_int) (je_len T.z_len (ja_cons (je_var 4) ja_nil))))) (je_item (je_var 1) (je_item (je_var 4) (je_var 5)))))) (passes_of rfl)))) (passes_of rfl))
    (js_one (js_weak1 (m := [.sh, .sh, .sh, .ow, .sh, .sh]) (m1 := [.sh, .sh, .sh, .sh, .sh, .sh]) (js_ret (je_tuple T.z_tuple (ja_cons (je_var 3) ja_nil)))))))
theorem sc_law_built : FnScope ["row", "points", "one", "two", "names"] ["row"] (defScope s_law_built) := ⟨rfl, rfl, rfl, by decide +kernel, rfl, by decide +kernel, by decide +kernel⟩
theorem ok_law_built {P : Program} {w : World} {K : PySem.W.Frag} {mg : Str → Option Value} {base : Heap} (T : Txt K mg) : Keeps P w K mg base "_law_built" 2 ["row"] 1 .ow m_law_built :=
  keeps_of T.d_law_built sc_law_built (by decide) fun f cdv A outer s H E hr =>
    (js_cons (js_set 1 (je_item (je_share (je_lst (md := .ow) (ja_cons je_int (ja_cons je_int (ja_cons je_int (ja_cons je_int (ja_cons je_int (ja_cons je_int (ja_cons je_int (ja_cons je_int ja_nil)))))))))) (je_item (je_var 0) je_int)) sc_law_built.nd)
    (js_cons (js_set 1 (je_add (je_var 1) (je_mod (je_item (je_var 0) je_int) (je_sub je_int (je_var 1)))) sc_law_built.nd)
    (js_cons (js_set 2 (je_lst (md := .ow) (ja_cons (je_share (je_lst (md := .ow) (ja_cons je_int (ja_cons je_int (ja_cons je_int (ja_cons je_int ja_nil)))))) ja_nil)) sc_law_built.nd)
    (js_cons (js_set 3 (je_lst (md := .ow) (ja_cons (je_share (je_lst (md := .ow) (ja_cons je_int (ja_cons je_int ja_nil)))) ja_nil)) sc_law_built.nd)
    (js_cons (js_fgt [] (js_if (jt_eq hr.u (je_item (je_var 0) je_int) je_int) (js_one (js_set 2 (je_lst (md := .ow) (ja_cons (je_share (je_lst (md := .ow) (ja_cons je_int (ja_cons je_int (ja_cons je_int ja_nil))))) (ja_cons (je_share (je_lst (md := .ow) (ja_cons je_int (ja_cons je_int (ja_cons je_int (ja_cons je_int (ja_cons je_int ja_nil))))))) ja_nil))) sc_law_built.nd)) js_nil))
    (js_cons (js_fgt [] (js_if (jt_eq hr.u (je_item (je_var 0) je_int) je_int) (js_one (js_set 2 (je_lst (md := .ow) (ja_cons (je_share (je_lst (md := .ow) (ja_cons je_int (ja_cons je_int (ja_cons je_int ja_nil))))) (ja_cons (je_share (je_lst (md := .ow) (ja_cons je_int (ja_cons je_int (ja_cons je_int (ja_cons je_int ja_nil)))))) ja_nil))) sc_law_built.nd)) js_nil))
    (js_cons (js_fgt [] (js_if (jt_eq hr.u (je_item (je_var 0) je_int) je_int) (js_cons (js_set 2 (je_lst (md := .ow) (ja_cons (je_share (je_lst (md := .ow) (ja_cons je_int (ja_cons je_int (ja_cons je_int ja_nil))))) ja_nil)) sc_law_built.nd)
    (js_one (js_set 3 (je_lst (md := .ow) (ja_cons (je_share (je_lst (md := .ow) (ja_cons je_int (ja_cons je_int (ja_cons je_int (ja_cons je_int (ja_cons je_int ja_nil))))))) ja_nil)) sc_law_built.nd))) js_nil))
    (js_cons (js_fgt [] (js_if (jt_eq hr.u (je_item (je_var 0) je_int) je_int) (js_cons (js_set 2 (je_lst (md := .ow) (ja_cons (je_share (je_lst (md := .ow) (ja_cons je_int (ja_cons je_int (ja_cons je_int (ja_cons je_int (ja_cons je_int ja_nil))))))) ja_nil)) sc_law_built.nd)
    (js_one (js_set 3 (je_lst (md := .ow) (ja_cons (je_share (je_lst (md := .ow) (ja_cons je_int (ja_cons je_int (ja_cons je_int (ja_cons je_int ja_nil)))))) ja_nil)) sc_law_built.nd))) js_nil))
    (js_cons (js_fgt [] (js_if (jt_eq hr.u (je_item (je_var 0) je_int) je_int) (js_one (js_set 3 (je_lst (md := .ow) (ja_cons (je_share (je_lst (md := .ow) (ja_cons je_int (ja_cons je_int ja_nil)))) (ja_cons (je_share (je_lst (md := .ow) (ja_cons je_int (ja_cons je_int ja_nil)))) ja_nil))) sc_law_built.nd)) js_nil))
    (js_cons (js_fgt [] (js_if (jt_eq hr.u (je_item (je_var 0) je_int) je_int) (js_one (js_set 3 (je_lst (md := .ow) (ja_cons (je_share (je_lst (md := .ow) (ja_cons je_int (ja_cons je_int (ja_cons je_int ja_nil))))) ja_nil)) sc_law_built.nd)) js_nil))
    (js_cons (js_fgt [] (js_if (jt_eq hr.u (je_item (je_var 0) je_int) je_int) (js_cons (js_set 2 (je_lst (md := .ow) (ja_cons (je_share (je_lst (md := .ow) (ja_cons je_int (ja_cons je_int (ja_cons je_int ja_nil))))) (ja_cons (je_share (je_lst (md := .ow) (ja_cons je_int (ja_cons je_int ja_nil)))) ja_nil))) sc_law_built.nd)
    (js_one (js_set 3 (je_lst (md := .ow) (ja_cons (je_share (je_lst (md := .ow) (ja_cons je_int (ja_cons je_int (ja_cons je_int ja_nil))))) (ja_cons (je_share (je_lst (md := .ow) (ja_cons je_int (ja_cons je_int ja_nil)))) ja_nil))) sc_law_built.nd))) js_nil))
    (js_cons (js_set 4 (je_call (ok_law_day T) (hr.mono (by decide)) (takes_of rfl rfl rfl rfl) (ja_cons (je_var 1) (ja_cons (je_cut (je_var 0) (jo_some je_int) jo_none) ja_nil))) sc_law_built.nd)
    (js_one (js_weak1 (m := [.sh, .sh, .ow, .ow, .sh]) (m1 := [.sh, .sh, .sh, .ow, .sh]) (js_weak1 (m := [.sh, .sh, .sh, .ow, .sh]) (m1 := [.sh, .sh, .sh, .sh, .sh]) (js_ret (je_lst (md := .ow) (ja_cons (je_var 1) (ja_cons (je_share (je_lst (md := .ow) (ja_cons (je_call (ok_law_cycles T) (hr.mono (by decide)) (takes_of rfl rfl rfl rfl) (ja_cons (je_var 1) (ja_cons (je_var 4) (ja_cons (je_var 2) ja_nil)))) (ja_cons (je_call (ok_law_cycles T) (hr.mono (by decide)) (takes_of rfl rfl rfl rfl) (ja_cons (je_var 1) (ja_cons (je_var 4) (ja_cons (je_var 3) ja_nil)))) ja_nil)))) ja_nil)))))))))))))))))))
theorem sc_law_step : FnScope ["points", "row", "a", "b", "mine", "k"] ["points", "row"] (defScope s_law_step) := ⟨rfl, rfl, rfl, by decide +kernel, rfl, by decide +kernel, by decide +kernel⟩
theorem ok_law_step {P : Program} {w : World} {K : PySem.W.Frag} {mg : Str → Option Value} {base : Heap} (T : Txt K mg) : Keeps P w K mg base "_law_step" 2 ["points", "row"] 2 .sh m_law_step :=
  keeps_of T.d_law_step sc_law_step (by decide) fun f cdv A outer s H E hr =>
    (js_cons (js_if (jt_le (je_item (je_var 1) je_int) je_int) (js_one (js_ret (je_call (ok_law_day T) (hr.mono (by decide)) (takes_of rfl rfl rfl rfl) (ja_cons (je_var 0) (ja_cons (je_cut (je_var 1) (jo_some je_int) jo_none) ja_nil))))) js_nil)
    (js_cons (js_if (jt_eq hr.u (je_item (je_var 1) je_int) je_int) (js_one (js_ret (je_tuple T.z_tuple (ja_cons (je_share (je_lc sc_law_step [("k", 5)] (ji_range1 (ja_cons (je_var 0) ja_nil) T.z_range) (fun _ _ _ _ _ => (jg_name 5 sc_law_step.nd)) (fun _ _ _ _ _ => jts_nil) (fun _ _ _ _ _ => (je_mod (je_int_ T.z_int (ja_cons (je_add (je_var 5) (je_item (je_var 1) je_int)) ja_nil)) (je_var 0))))) ja_nil)))) js_nil)
    (js_cons (js_if (jt_eq hr.u (je_item (je_var 1) je_int) je_int) (js_one (js_ret (je_tuple T.z_tuple (ja_cons (je_share (je_lc sc_law_step [("k", 5)] (ji_range1 (ja_cons (je_var 0) ja_nil) T.z_range) (fun _ _ _ _ _ => (jg_name 5 sc_law_step.nd)) (fun _ _ _ _ _ => jts_nil) (fun _ _ _ _ _ => (je_mod (je_int_ T.z_int (ja_cons (je_sub (je_item (je_var 1) je_int) (je_var 5)) ja_nil)) (je_var 0))))) ja_nil)))) js_nil)
    (js_cons (js_set 2 (je_mod (je_item (je_var 1) je_int) (je_var 0)) sc_law_step.nd)
    (js_cons (js_set 3 (je_mod (je_item (je_var 1) je_int) (je_var 0)) sc_law_step.nd)
    (js_cons (js_setLc 4 sc_law_step [("k", 5)] (ji_range1 (ja_cons (je_var 0) ja_nil) T.z_range) (fun _ _ _ _ _ => (jg_name 5 sc_law_step.nd)) (fun _ _ _ _ _ => jts_nil) (fun _ _ _ _ _ => (je_var 5)))
    (js_cons (js_setix 4 (je_var 3) (je_var 2))
    (js_cons (js_setix 4 (je_var 2) (je_var 3))
    (js_one (js_weak1 (m := [.sh, .sh, .sh, .sh, .ow, .sh]) (m1 := [.sh, .sh, .sh, .sh, .sh, .sh]) (js_ret (je_tuple T.z_tuple (ja_cons (je_var 4) ja_nil)))))))))))))
theorem sc_law : FnScope ["script", "row", "points", "steps", "k", "bad", "at", "wrong", "door", "turn", "built", "step"] ["script"] (defScope s_law) := ⟨rfl, rfl, rfl, by decide +kernel, rfl, by decide +kernel, by decide +kernel⟩
theorem okf_law {P : Program} {w : World} {K : PySem.W.Frag} {mg : Str → Option Value} {base : Heap} (T : Txt K mg) {f : Addr} {fd : FuncData} (Fn : Fun K "law" "law" s_law f fd) : FnOk P w K mg base (L2.CX P w) 13 f fd ["script"] (spD K mg 1 .sh m_law) :=
  fn_ok (m' := msh 12) Fn sc_law (by decide) fun cdv A outer s H E hr =>
    (js_cons (js_set 1 (je_call (ok_law_digits T) (hr.mono (by decide)) (takes_of rfl rfl rfl rfl) (ja_cons (je_call (ok_law_cell T) (hr.mono (by decide)) (takes_of rfl rfl rfl rfl) (ja_cons (je_var 0) (ja_cons je_int ja_nil))) (ja_cons (je_share (je_lst (md := .ow) (ja_cons je_int (ja_cons je_int (ja_cons je_int (ja_cons je_int (ja_cons je_int ja_nil))))))) ja_nil))) sc_law.nd)
    (js_cons (js_set 2 (je_add je_int (je_itemO 1 je_int)) sc_law.nd)
    (js_cons (js_fgt [] (js_if (jt_gt (je_itemO 1 je_int) je_int) (js_one (js_set 2 (je_add je_int (je_mod (je_itemO 1 je_int) je_int)) sc_law.nd)) js_nil))
    (js_cons (js_set 3 (je_lst (md := .ow) ja_nil) sc_law.nd)
    (js_cons (js_for (ji_range1 (ja_cons (je_itemO 1 je_int) ja_nil) T.z_range) (jg_name 4 sc_law.nd) (jss_fgt [4] (js_one (js_app 3 (je_call (ok_law_step T) (hr.mono (by decide)) (takes_of rfl rfl rfl rfl) (ja_cons (je_var 2) (ja_cons (je_share (je_call (ok_law_digits T) (hr.mono (by decide)) (takes_of rfl rfl rfl rfl) (ja_cons (je_call (ok_law_cell T) (hr.mono (by decide)) (takes_of rfl rfl rfl rfl) (ja_cons (je_var 0) (ja_cons (je_add je_int (je_var 4)) ja_nil))) (ja_cons (je_share (je_addL (je_share (je_lst (md := .ow) (ja_cons je_int (ja_cons je_int (ja_cons je_int (ja_cons je_int ja_nil)))))) (je_share (je_rep (je_share (je_lst (md := .ow) (ja_cons je_int ja_nil))) je_int)))) ja_nil)))) ja_nil)))))) (passes_of rfl))
    (js_cons (js_if (jt_not (jt_borrow (m1 := [.sh, .sh, .sh, .sh, .sh, .sh, .sh, .sh, .sh, .sh, .sh, .sh]) (jt_tr (je_call (ok_law_told T) (hr.mono (by decide)) (takes_of rfl rfl rfl rfl) (ja_cons (je_var 2) (ja_cons (je_var 3) ja_nil)))))) (js_one (js_ret je_bl)) js_nil)
    (js_cons (js_set 5 (je_item (je_share (je_lst (md := .ow) (ja_cons (je_share (je_rep (je_share (je_lst (md := .ow) (ja_cons je_int ja_nil))) (je_add (je_var 2) je_int))) (ja_cons (je_share (je_addL (je_share (je_lst (md := .ow) (ja_cons (je_var 2) ja_nil))) (je_share (je_lc sc_law [("k", 4)] (ji_range2 (ja_cons je_int (ja_cons (je_var 2) ja_nil)) T.z_range) (fun _ _ _ _ _ => (jg_name 4 sc_law.nd)) (fun _ _ _ _ _ => jts_nil) (fun _ _ _ _ _ => (je_var 4)))))) (ja_cons (je_share (je_lst (md := .ow) ja_nil)) (ja_cons (je_share (je_addL (je_share (je_lst (md := .ow) (ja_cons (je_neg je_int) ja_nil))) (je_share (je_lc sc_law [("k", 4)] (ji_range2 (ja_cons je_int (ja_cons (je_var 2) ja_nil)) T.z_range) (fun _ _ _ _ _ => (jg_name 4 sc_law.nd)) (fun _ _ _ _ _ => jts_nil) (fun _ _ _ _ _ => (je_var 4)))))) ja_nil)))))) (je_mod (je_itemO 1 je_int) je_int)) sc_law.nd)
    (js_cons (js_set 6 (je_min2 T.z_min (ja_cons (je_itemO 1 je_int) (ja_cons (je_borrow (m1 := [.sh, .sh, .sh, .sh, .sh, .sh, .sh, .sh, .sh, .sh, .sh, .sh]) (je_len T.z_len (ja_cons (je_var 3) ja_nil))) ja_nil))) sc_law.nd)
    (js_cons (js_set 7 (je_addL (je_share (je_addL (je_share (je_addL (je_share (je_lc sc_law [("step", 11)] (ji_seq (je_share (je_cutLO 3 jo_none (jo_some (je_var 6))))) (fun _ _ _ _ _ => (jg_name 11 sc_law.nd)) (fun _ _ _ _ _ => jts_nil) (fun _ _ _ _ _ => (je_share ((je_list (md := .ow)) T.z_list (ja_cons (je_var 11) ja_nil)))))) (je_share (je_lst (md := .ow) (ja_cons (je_var 5) ja_nil))))) (je_share (je_lc sc_law [("step", 11)] (ji_seq (je_share (je_cutLO 3 (jo_some (je_var 6)) jo_none))) (fun _ _ _ _ _ => (jg_name 11 sc_law.nd)) (fun _ _ _ _ _ => jts_nil) (fun _ _ _ _ _ => (je_share ((je_list (md := .ow)) T.z_list (ja_cons (je_var 11) ja_nil)))))))) (je_share (je_lst (md := .ow) (ja_cons (je_share (je_lst (md := .ow) ja_nil)) ja_nil)))) sc_law.nd)
    (js_cons (js_for (ji_range1 (ja_cons je_int ja_nil) T.z_range) (jg_name 8 sc_law.nd) (jss_fgt [8] (js_one (js_if (jt_borrow (m1 := [.sh, .sh, .sh, .sh, .sh, .sh, .sh, .sh, .sh, .sh, .sh, .sh]) (jt_ne hr.u (je_call (ok_law_asked T) (hr.mono (by decide)) (takes_of rfl rfl rfl rfl) (ja_cons (je_var 8) (ja_cons (je_var 2) (ja_cons (je_var 7) ja_nil)))) (je_share (je_lst (md := .ow) (ja_cons je_str (ja_cons (je_var 6) ja_nil)))))) (js_one (js_ret je_bl)) js_nil))) (passes_of rfl))
    (js_cons (js_for (ji_range1 (ja_cons je_int ja_nil) T.z_range) (jg_name 9 sc_law.nd) (jss_fgt [9, 10] (js_end (m1 := [.sh, .ow, .sh, .ow, .sh, .sh, .sh, .ow, .sh, .sh, .ow, .sh]) (m2 := [.sh, .ow, .sh, .ow, .sh, .sh, .sh, .ow, .sh, .sh, .sh, .sh]) (js_cons (js_set 10 (je_call (ok_law_built T) (hr.mono (by decide)) (takes_of rfl rfl rfl rfl) (ja_cons (je_share (je_call (ok_law_digits T) (hr.mono (by decide)) (takes_of rfl rfl rfl rfl) (ja_cons (je_call (ok_law_cell T) (hr.mono (by decide)) (takes_of rfl rfl rfl rfl) (ja_cons (je_var 0) (ja_cons (je_add je_int (je_var 9)) ja_nil))) (ja_cons (je_share (je_addL (je_share (je_lst (md := .ow) (ja_cons je_int (ja_cons je_int ja_nil)))) (je_share (je_rep (je_share (je_lst (md := .ow) (ja_cons je_int ja_nil))) je_int)))) ja_nil)))) ja_nil)) sc_law.nd)
    (js_one (js_if (jt_not (jt_tr (je_call (ok_law_told T) (hr.mono (by decide)) (takes_of rfl rfl rfl rfl) (ja_cons (je_itemO 10 je_int) (ja_cons (je_itemO 10 je_int) ja_nil))))) (js_one (js_ret je_bl)) js_nil))))) (passes_of rfl))
    (js_one (js_ret je_bl)))))))))))))
end Kx
namespace Da
open PySem PySem.Spec L2
section
variable {α β γ : Type}
@[simp] theorem Res.bind_ret (r : Res α) : (r.bind fun x => .ok x) = r := by cases r <;> rfl
@[simp] theorem Res.bind_assoc (r : Res α) (f : α → Res β) (g : β → Res γ) : (r.bind f).bind g = r.bind fun x => (f x).bind g := by cases r <;> rfl
theorem mulR_of {i j : Int} (h : mulOk i j = true) : mulR i j = .ok (i * j) := if_pos h
theorem mulR_64 {i j : Int} (hi : i.natAbs < 18446744073709551616) (hj : j.natAbs < 18446744073709551616) : mulR i j = .ok (i * j) := mulR_of (mul64 hi hj)
theorem modR_pos {i j : Int} (h : 0 < j) : modR i j = .ok (i % j) := if_pos h
theorem divR_pos {i j : Int} (h : 0 < j) (h9 : j.natAbs < Lim) : divR i j = .ok (i / j) := if_pos ⟨h, log2_lt h9 (by decide)⟩
theorem divR_64 {i j : Int} (h : 0 < j) (h9 : j < 18446744073709551616) : divR i j = .ok (i / j) := divR_pos h (lt_lim (by omega))
theorem powR_of {i j r : Int} (h : powOk i j = true) (hr : i ^ j.toNat = r) : powR i j = .ok r := by rw [← hr]; exact if_pos h
theorem powR_18 : powR 10 18 = .ok 1000000000000000000 := powR_of (stuck_iff.mpr (by omega)) (by decide +kernel)
theorem ixR_nat {xs : List α} {i : Nat} {x : α} (h : xs[i]? = some x) : ixR xs (i : Int) = .ok x := by unfold ixR; rw [atI_nat h]
theorem ixR_of {xs : List α} {i : Int} {x : α} (h0 : 0 ≤ i) (h : xs[i.toNat]? = some x) : ixR xs i = .ok x := by
  have := ixR_nat h
  rwa [show ((i.toNat : Nat) : Int) = i by omega] at this
theorem appR_ok {xs : List α} {x : α} (h : xs.length < 1000000) : appR xs x = .ok (xs ++ [x]) := if_pos (szOk_yes h)
theorem catR_ok {xs ys : List α} (h : xs.length + ys.length ≤ 1000000) : catR xs ys = .ok (xs ++ ys) := if_pos (szOk_yes h)
theorem repR_ok {xs : List α} {k : Int} (h : k < 9223372036854775808 ∧ -9223372036854775808 ≤ k) (h2 : xs.length * k.toNat ≤ 1000000) : repR xs k = .ok (List.replicate k.toNat xs).flatten := if_pos (stuck_iff.mpr ⟨by omega, szOk_yes h2⟩)
theorem setR_nat {xs : List α} {i : Nat} {x : α} (h : i < xs.length) : setR xs (i : Int) x = .ok (xs.set i x) := by
  unfold setR
  rw [show ixN xs.length (i : Int) = some i by unfold ixN; rw [if_pos (by omega), if_pos (by omega)]; simp]
theorem setR_of {xs : List α} {i : Int} {x : α} (h0 : 0 ≤ i) (h : i < xs.length) : setR xs i x = .ok (xs.set i.toNat x) := by
  have := setR_nat (xs := xs) (x := x) (i := i.toNat) (by omega)
  rwa [show ((i.toNat : Nat) : Int) = i by omega] at this
theorem popR_of {xs : List α} {i : Int} (h0 : 0 ≤ i) (h : i < xs.length) (hz : xs.length ≤ 1000000) : popR xs i = .ok (xs[i.toNat]'(by omega), xs.eraseIdx i.toNat) := by
  unfold popR
  rw [show ixN xs.length i = some i.toNat by unfold ixN; rw [if_pos h0, if_pos h]]
  simp only [List.getElem?_eq_getElem (show i.toNat < xs.length by omega), szOk_yes hz, if_true]
theorem rngI_upto {n : Nat} : rngI 0 n = upto n := by
  unfold rngI upto
  exact List.map_congr_left fun i _ => Int.zero_add _
theorem rngR_ok {j : Int} (h0 : 0 ≤ j) (h : j < 4611686018427387904) : rngR j = .ok (upto j.toNat) := by
  unfold rngR
  rw [if_pos (show rngOk 0 j = true from stuck_iff.mpr (by omega)), rngI_upto]
theorem rngR_nat {n : Nat} (h : n < 4611686018427387904) : rngR (n : Int) = .ok (upto n) := by rw [rngR_ok (by omega) (by omega)]; simp
theorem rng2R_ok {i j : Int} (h0 : -4611686018427387904 ≤ i) (h1 : i < 4611686018427387904) (h2 : -4611686018427387904 ≤ j) (h : j < 4611686018427387904) : rng2R i j = .ok (rngI i (j - i).toNat) := by
  unfold rng2R
  rw [if_pos (show rngOk i j = true from stuck_iff.mpr (by omega))]
theorem rngLR_ok {j : Int} (h0 : 0 ≤ j) (h : j ≤ 1000000) : rngLR j = .ok (upto j.toNat) := by
  unfold rngLR
  rw [if_pos (show rgnOk 0 j = true from stuck_iff.mpr ⟨stuck_iff.mpr (by omega), by omega⟩), rngI_upto]
theorem upto_get {n i : Nat} {x : Int} (h : (upto n)[i]? = some x) : x = (i : Int) ∧ i < n := by
  unfold upto at h
  rw [List.getElem?_map] at h
  cases e : (List.range n)[i]? with
  | none => rw [e] at h; cases h
  | some j =>
    rw [e] at h
    have hi := (List.getElem?_eq_some_iff.mp e).1
    rw [List.length_range] at hi
    rw [List.getElem?_range hi] at e
    cases e; cases h
    exact ⟨rfl, hi⟩
@[simp] theorem rngI_length {lo : Int} {n : Nat} : (rngI lo n).length = n := by unfold rngI; rw [List.length_map, List.length_range]
/-- a loop over 0 .. n - 1 -/
theorem forR_upto {σ : Type} {f : σ → Int → Res σ} {n : Nat} {s : σ} (P : Nat → σ → Prop) (h0 : P 0 s) (hs : ∀ (i : Nat) s, i < n → P i s → ∃ s', f s (i : Int) = .ok s' ∧ P (i + 1) s') : ∃ s', forR f (upto n) s = .ok s' ∧ P n s' := by
  obtain ⟨s', e, p⟩ := forR_inv (xs := upto n) (f := f) (s := s) P h0 (fun i x s hx p => by
    obtain ⟨rfl, hi⟩ := upto_get hx
    exact hs i s hi p)
  rw [upto_length] at p
  exact ⟨s', e, p⟩
@[simp] theorem forC_nil {α σ τ : Type} {f : σ → α → Res (Ctl σ τ)} {s : σ} : forC f [] s = .ok (.go s) := rfl
theorem forC_cons {α σ τ : Type} {f : σ → α → Res (Ctl σ τ)} {x : α} {xs : List α} {s : σ} : forC f (x :: xs) s = (f s x).bind fun o => match o with
    | .go s => forC f xs s
    | .out s => .ok (.go s)
    | .ret b => .ok (.ret b) := rfl
@[simp] theorem forR_nil {α σ : Type} {f : σ → α → Res σ} {s : σ} : forR f [] s = .ok s := rfl
@[simp] theorem forR_cons {α σ : Type} {f : σ → α → Res σ} {x : α} {xs : List α} {s : σ} : forR f (x :: xs) s = (f s x).bind fun s => forR f xs s := rfl
@[simp] theorem ctlS_go {σ τ : Type} {s : σ} : ctlS (.go s : Ctl σ τ) = .ok s := rfl
@[simp] theorem ctlS_out {σ τ : Type} {s : σ} : ctlS (.out s : Ctl σ τ) = .ok s := rfl
@[simp] theorem ctlK_go {σ τ γ : Type} {k : σ → Res γ} {rk : τ → γ} {s : σ} : ctlK k rk (.go s) = k s := rfl
@[simp] theorem ctlK_ret {σ τ γ : Type} {k : σ → Res γ} {rk : τ → γ} {b : τ} : ctlK k rk (.ret b : Ctl σ τ) = .ok (rk b) := rfl
theorem enumI_eq : ∀ (xs : List α) (i : Nat), enumI i xs = (xs.zipIdx i).map fun p => ((p.2 : Int), p.1)
  | [], _ => rfl
  | x :: xs, i => by
    show ((i : Int), x) :: enumI (i + 1) xs = _
    rw [enumI_eq, List.zipIdx_cons]
    rfl
theorem enumI_at {xs : List α} {i j : Nat} {p : Int × α} (h : (enumI i xs)[j]? = some p) : p.1 = ((i + j : Nat) : Int) ∧ xs[j]? = some p.2 := by
  rw [enumI_eq, List.getElem?_map, List.getElem?_zipIdx] at h
  cases e : xs[j]? with
  | none => rw [e] at h; cases h
  | some x => rw [e] at h; cases h; exact ⟨rfl, rfl⟩
end
end Da
namespace Da
open PySem PySem.Spec L2
theorem In.le {L A B : Nat} {q : Rat} (h : In L A q) (hab : A ≤ B) : In L B q := by
  obtain ⟨n, e, hn⟩ := h
  exact ⟨n, e, Nat.le_trans hn hab⟩
end Da
namespace Da
open PySem PySem.Spec L2
def Tr {α : Type} (r : Res α) (Q : α → Prop) : Prop := ∃ v, r = .ok v ∧ Q v
section
variable {α β γ σ τ : Type} {r : Res α} {Q : α → Prop} {f : α → Res β} {v : α} {R : β → Prop}
theorem Tr.of (h : r = .ok v) (q : Q v) : Tr r Q := ⟨v, h, q⟩
theorem Tr.eq {r : Res α} {v : α} (h : Tr r fun x => x = v) : r = .ok v := by obtain ⟨x, e, rfl⟩ := h; exact e
theorem Tr.ok (q : Q v) : Tr (.ok v) Q := ⟨v, rfl, q⟩
theorem Tr.imp {Q' : α → Prop} (h : Tr r Q) (k : ∀ v, Q v → Q' v) : Tr r Q' := by obtain ⟨v, e, q⟩ := h; exact ⟨v, e, k v q⟩
theorem Tr.bind (h : Tr r Q) (k : ∀ v, Q v → Tr (f v) R) : Tr (r.bind f) R := by
  obtain ⟨v, e, q⟩ := h
  rw [e]
  exact k v q
/-- a step whose outcome is known -/
theorem Tr.st (h : r = .ok v) (k : Tr (f v) R) : Tr (r.bind f) R := by rw [h]; exact k
theorem Tr.nx (h : Tr r Q) : Tr (nx r) Q := by obtain ⟨v, e, q⟩ := h; rw [e]; exact ⟨v, rfl, q⟩
theorem tr_forR {f : σ → α → Res σ} {xs : List α} {s : σ} {Q : σ → Prop} (P : Nat → σ → Prop) (h0 : P 0 s) (hs : ∀ i x s, xs[i]? = some x → P i s → Tr (f s x) (P (i + 1))) (hd : ∀ s, P xs.length s → Q s) : Tr (forR f xs s) Q := by
  obtain ⟨s', e, p⟩ := forR_inv P h0 fun i x s hx p => hs i x s hx p
  exact ⟨s', e, hd s' p⟩
theorem tr_forRn {f : σ → Int → Res σ} {n : Nat} {s : σ} {Q : σ → Prop} (P : Nat → σ → Prop) (h0 : P 0 s) (hs : ∀ (i : Nat) s, i < n → P i s → Tr (f s (i : Int)) (P (i + 1))) (hd : ∀ s, P n s → Q s) : Tr (forR f (upto n) s) Q := by
  obtain ⟨s', e, p⟩ := forR_upto P h0 fun i s hi p => hs i s hi p
  exact ⟨s', e, hd s' p⟩
/-- a search, and what comes behind it -/
theorem tr_find {f : Unit → α → Res (Ctl Unit τ)} {xs : List α} {k : Unit → Res γ} {rk : τ → γ} {Q : γ → Prop} (P : α → Prop) (R : τ → Prop) (h : ∀ x ∈ xs, Tr (f () x) fun o => (o = .go () ∧ P x) ∨ ∃ b, o = .ret b ∧ R b)
    (h1 : (∀ x ∈ xs, P x) → Tr (k ()) Q) (h2 : ∀ b, R b → Q (rk b)) : Tr ((forC f xs ()).bind (ctlK k rk)) Q := by
  induction xs with
  | nil => exact h1 fun x hx => nomatch hx
  | cons x xs ih =>
    rw [forC_cons, Res.bind_assoc]
    obtain ⟨o, e, p⟩ := h x List.mem_cons_self
    rw [e]
    rcases p with ⟨rfl, p⟩ | ⟨b, rfl, r⟩
    · exact ih (fun y hy => h y (List.mem_cons_of_mem _ hy)) fun hp => h1 fun y hy => by
        rcases List.mem_cons.mp hy with rfl | hy
        · exact p
        · exact hp y hy
    · exact ⟨_, rfl, h2 b r⟩
/-- all turns go on -/
theorem tr_all {f : Unit → α → Res (Ctl Unit τ)} {xs : List α} {k : Unit → Res γ} {rk : τ → γ} {Q : γ → Prop} (h : ∀ x ∈ xs, Tr (f () x) fun o => o = .go ()) (h1 : Tr (k ()) Q) : Tr ((forC f xs ()).bind (ctlK k rk)) Q :=
  tr_find (fun _ => True) (fun _ => False) (fun x hx => (h x hx).imp fun o e => .inl ⟨e, trivial⟩) (fun _ => h1) fun b h => h.elim
end
end Da
namespace Kx
open PySem PySem.Spec L2 Da
theorem law_cell (ns : List Int) (k : Int) (hk : 0 ≤ k) (hk2 : k < 1000000) : ∃ c : Int, N_law_cell_fi_i ns k = .ok c := by
  unfold N_law_cell_fi_i
  by_cases h : k < ns.length
  · exact ⟨ns[k.toNat], by simp [h, ixR_of (xs := ns) (x := ns[k.toNat]) hk (List.getElem?_eq_getElem (by omega))]⟩
  · obtain ⟨s, e, h1, h2⟩ := forR_inv (xs := ns) (s := (17 : Int)) (f := fun s x1 => (mulR s 31).bind fun x => Res.ok ((x + x1 % 1000003) % 1000003)) (fun _ s => 0 ≤ s ∧ s < 1000003) ⟨by omega, by omega⟩ fun i x s _ h => by
      refine ⟨_, by rw [mulR_64 (by omega) (by omega)]; rfl, ?_⟩
      omega
    have m1 : 0 ≤ (s + 7) * (k + 3) ∧ (s + 7) * (k + 3) ≤ 1000010 * 1000003 := ⟨Int.mul_nonneg (by omega) (by omega), Int.mul_le_mul (by omega) (by omega) (by omega) (by omega)⟩
    refine ⟨((s + 7) * (k + 3) * 69621) % 2147483647, ?_⟩
    simp only [Res.bind_assoc, Res.bind_ok, Res.bind_ret]
    rw [if_neg (by simpa using h), e]
    simp only [Res.bind_ok]
    rw [mulR_64 (by omega) (by omega)]
    simp only [Res.bind_ok]
    rw [mulR_64 (by omega) (by omega)]
    rfl
theorem law_digits (c : Int) (sizes : List Int) (hp : ∀ s ∈ sizes, 0 < s ∧ s < 18446744073709551616) (hz : sizes.length ≤ 100000) : ∃ row : List Int, N_law_digits_i_li c sizes = .ok row ∧ Digs sizes row := by
  unfold N_law_digits_i_li
  simp only [powR_18, Res.bind_ok, Res.bind_assoc, Res.bind_ret]
  by_cases h : 1000000000000000000 ≤ c
  · rw [if_pos (by simpa using h)]
    obtain ⟨s, e, hd⟩ := forR_inv (xs := sizes) (s := (([] : List Int), c - 1000000000000000000)) (f := fun x5 x4 => (modR x5.2 x4).bind fun x => (appR x5.1 x).bind fun x => (divR x5.2 x4).bind fun x7 => Res.ok (x, x7)) (fun n s => Digs (sizes.take n) s.1) ⟨rfl, fun i s r e => by simp at e⟩ fun i x s hx hd => by
      have hs := hp x (List.mem_of_getElem? hx)
      have hl : s.1.length ≤ 100000 := by have := hd.1; rw [List.length_take] at this; omega
      refine ⟨(s.1 ++ [s.2 % x], s.2 / x), ?_, hd.snoc hx (Int.emod_nonneg _ (by omega)) (Int.emod_lt_of_pos _ hs.1)⟩
      rw [modR_pos hs.1]; dsimp only [Res.bind_ok]; rw [appR_ok (by omega)]; dsimp only [Res.bind_ok]; rw [divR_64 hs.1 hs.2]; rfl
    rw [List.take_length] at hd
    refine ⟨s.1, ?_, hd⟩
    rw [e]; rfl
  · rw [if_neg (by simpa using h), rngR_nat (by omega)]
    dsimp only [Res.bind_ok]
    have hm := Int.emod_nonneg c (show (2147483629 : Int) ≠ 0 by decide)
    have hm2 := Int.emod_lt_of_pos c (show (0 : Int) < 2147483629 by decide)
    obtain ⟨s, e, hd, _, _⟩ := forR_upto (n := sizes.length) (s := (([] : List Int), c % 2147483629)) (f := fun x10 x9 => (mulR x10.2 48271).bind fun x => (mulR 974711 x9).bind fun x_1 => (mulR ((x + x_1 + 12345) % 2147483647) ((x + x_1 + 12345) % 2147483647 / 65537 + 3)).bind fun x_2 => (ixR sizes x9).bind fun x_3 => (modR (x_2 % 2147483629 / 19) x_3).bind fun x_4 => (appR x10.1 x_4).bind fun x_5 => Res.ok (x_5, (x + x_1 + 12345) % 2147483647))
      (fun n s => Digs (sizes.take n) s.1 ∧ 0 ≤ s.2 ∧ s.2 < 2147483647) ⟨⟨rfl, fun i s r e => by simp at e⟩, hm, by omega⟩ fun i s hi hd => by
      obtain ⟨hd, h1, h2⟩ := hd
      have e := List.getElem?_eq_getElem hi
      have hs := hp sizes[i] (List.mem_of_getElem? e)
      have hl : s.1.length ≤ 100000 := by have := hd.1; rw [List.length_take] at this; omega
      generalize hs' : (s.2 * 48271 + 974711 * (i : Int) + 12345) % 2147483647 = s'
      have b1 : 0 ≤ s' := by rw [← hs']; exact Int.emod_nonneg _ (by decide)
      have b2 : s' < 2147483647 := by rw [← hs']; exact Int.emod_lt_of_pos _ (by decide)
      have b3 : 0 ≤ s' / 65537 ∧ s' / 65537 < 40000 := by omega
      refine ⟨(s.1 ++ [s' * (s' / 65537 + 3) % 2147483629 / 19 % sizes[i]], s'), ?_, hd.snoc e (Int.emod_nonneg _ (by omega)) (Int.emod_lt_of_pos _ hs.1), b1, b2⟩
      rw [mulR_64 (by omega) (by omega)]; dsimp only [Res.bind_ok]
      rw [mulR_64 (by omega) (by omega)]; dsimp only [Res.bind_ok]
      rw [hs', mulR_64 (by omega) (by omega)]; dsimp only [Res.bind_ok]
      rw [ixR_nat e]; dsimp only [Res.bind_ok]
      rw [modR_pos hs.1]; dsimp only [Res.bind_ok]
      rw [appR_ok (by omega)]; rfl
    rw [List.take_length] at hd
    refine ⟨s.1, ?_, hd⟩
    rw [e]; rfl
theorem law_same_i {a b : Int} : N_law_same_i_i a b = .ok (decide (a = b)) := rfl
theorem take_out' {L : List Int} {k : Nat} (hk : k < L.length) : (L[k] :: L.eraseIdx k).Perm L := by
  rw [List.eraseIdx_eq_take_drop_succ]
  have h := (List.perm_middle (a := L[k]) (l₁ := L.take k) (l₂ := L.drop (k + 1))).symm
  refine h.trans (List.Perm.of_eq ?_)
  rw [← List.drop_eq_getElem_cons hk, List.take_append_drop]
end Kx
namespace Kx
open PySem PySem.Spec L2 Da
open PySem PySem.Spec L2 Da
theorem ixR_mem {α : Type} {xs : List α} {i : Int} (h0 : 0 ≤ i) (h : i < xs.length) : ∃ t, ixR xs i = .ok t ∧ t ∈ xs := ⟨xs[i.toNat]'(by omega), ixR_of h0 (List.getElem?_eq_getElem (by omega)), List.getElem_mem _⟩
end Kx
namespace Da
theorem Digs.get {sizes row : List Int} (h : Digs sizes row) {i : Nat} {s : Int} (hs : sizes[i]? = some s) : ∃ r, row[i]? = some r ∧ 0 ≤ r ∧ r < s := by
  have hi := (List.getElem?_eq_some_iff.mp hs).1
  have hi' : i < row.length := by rw [h.1]; exact hi
  exact ⟨row[i], List.getElem?_eq_getElem hi', h.2 i s _ hs (List.getElem?_eq_getElem hi')⟩
end Da
namespace Kx
open PySem PySem.Spec L2 Da
def Nd (n : Nat) (x : Int) : Prop := 0 ≤ x ∧ x < n
theorem Nd.nat {n : Nat} {x : Int} (h : Nd n x) : ∃ k : Nat, x = k ∧ k < n := ⟨x.toNat, by have := h.1; omega, by have := h.1; have := h.2; omega⟩
theorem Nd.of {n k : Nat} (h : k < n) : Nd n (k : Int) := ⟨by omega, by omega⟩
def nb (N : List (List Int)) (a : Int) : List Int := N.getD a.toNat []
structure Near (n : Nat) (N : List (List Int)) : Prop where
  len : N.length = n
  pos : 0 < n
  le : n ≤ 24
  rng : ∀ a b, Nd n a → b ∈ nb N a → Nd n b ∧ b ≠ a
  sym : ∀ a b, Nd n a → b ∈ nb N a → a ∈ nb N b
  few : ∀ a, (nb N a).length ≤ 1000
  con : ∀ S : Int → Prop, (∀ a b, Nd n a → b ∈ nb N a → S a → S b) → ∀ s t, Nd n s → Nd n t → S s → S t
end Kx
namespace Kx
open PySem PySem.Spec L2 Da
def kn (K : List Bool) (x : Int) : Bool := K.getD x.toNat false
theorem bind_eq {α β : Type} {r : Res α} {v : α} {f : α → Res β} {Q : β → Prop} (h : r = .ok v) (k : Tr (f v) Q) : Tr (r.bind f) Q := by rw [h]; exact k
end Kx
namespace Kx
open PySem PySem.Spec L2 Da
theorem nodup_le {n : Nat} {r : List Int} (nd : r.Nodup) (rg : ∀ x ∈ r, Nd n x) : r.length ≤ n := by
  have := nd.length_le_of_subset (l₂ := upto n) fun x hx => mem_upto.mpr (rg x hx)
  rwa [upto_length] at this
/-- each node is followed by a neighbor -/
def Stp (N : List (List Int)) (r : List Int) : Prop := ∀ (i : Nat) a b, r[i]? = some a → r[i + 1]? = some b → b ∈ nb N a
structure Rt (n : Nat) (N : List (List Int)) (u v : Int) (r : List Int) : Prop where
  hd : r.head? = some u
  la : r.getLast? = some v
  nd : r.Nodup
  rg : ∀ x ∈ r, Nd n x
  st : Stp N r
theorem Rt.len {n : Nat} {N : List (List Int)} {u v : Int} {r : List Int} (h : Rt n N u v r) : r.length ≤ n := nodup_le h.nd h.rg
theorem Stp.one {N : List (List Int)} {x : Int} : Stp N [x] := fun i a b h1 h2 => by simp at h2
theorem Stp.snoc {N : List (List Int)} {r : List Int} {a b : Int} (h : Stp N r) (hl : r.getLast? = some a) (hb : b ∈ nb N a) : Stp N (r ++ [b]) := fun i x y h1 h2 => by
  by_cases hi : i + 1 < r.length
  · rw [List.getElem?_append_left (by omega)] at h1 h2
    exact h i x y h1 h2
  · have hlt := (List.getElem?_eq_some_iff.mp h2).1
    rw [List.length_append, List.length_singleton] at hlt
    have e : i + 1 = r.length := by omega
    rw [e, List.getElem?_concat_length] at h2
    rw [List.getElem?_append_left (by omega)] at h1
    rw [List.getLast?_eq_getElem?, show r.length - 1 = i by omega, h1] at hl
    cases h2; cases hl
    exact hb
theorem frozen_t (r : List Int) (h : r.length ≤ 1000000) : N_frozen_ti r = .ok r := by
  unfold N_frozen_ti
  simp only [Res.bind_ret]
  exact (lcR_map (g := fun x => x) h fun x _ => rfl).trans (by rw [List.map_id'])
theorem frozen_lt (r : List (List Int)) (h : r.length ≤ 1000000) (h2 : ∀ x ∈ r, x.length ≤ 1000000) : N_frozen_lti r = .ok r := by
  unfold N_frozen_lti
  simp only [Res.bind_ret]
  exact (lcR_map (g := fun x => x) h fun x hx => frozen_t x (h2 x hx)).trans (by rw [List.map_id'])
def rtAt (R : List (List (List Int))) (u v : Nat) : List Int := (R.getD u []).getD v []
/-- rows of routes -/
structure Rows (n : Nat) (N : List (List Int)) (R : List (List (List Int))) : Prop where
  len : R.length = n
  row : ∀ (u : Nat), u < n → (R.getD u []).length = n
  rt : ∀ (u v : Nat), u < n → v < n → Rt n N u v (rtAt R u v)
theorem getD_some {α : Type} {xs : List α} {d : α} {i : Nat} (h : i < xs.length) : xs[i]? = some (xs.getD i d) := by
  rw [List.getD_eq_getElem?_getD, List.getElem?_eq_getElem h]; rfl
end Kx
namespace Kx
open PySem PySem.Spec L2 Da
section
variable {n : Nat} {N : List (List Int)}
/-- a route under way to v -/
structure Fr (n : Nat) (N : List (List Int)) (u v : Int) (i : Nat) (r : List Int) : Prop where
  len : r.length = i + 1
  hd : r.head? = some u
  nd : r.Nodup
  rg : ∀ x ∈ r, Nd n x
  st : Stp N r
theorem Fr.one {u v : Int} (hu : Nd n u) : Fr n N u v 0 [u] := ⟨rfl, rfl, by simp, fun x hx => by rw [List.mem_singleton.mp hx]; exact hu, Stp.one⟩
theorem Fr.done {u v : Int} {i : Nat} {r : List Int} (h : Fr n N u v i r) (hl : r.getLast? = some v) : Rt n N u v r := ⟨h.hd, hl, h.nd, h.rg, h.st⟩
theorem Fr.snoc {u v : Int} {i : Nat} {r : List Int} {a b : Int} (hN : Near n N) (h : Fr n N u v i r) (hl : r.getLast? = some a) (hb : b ∈ nb N a) (hr : b ∉ r) : Fr n N u v (i + 1) (r ++ [b]) := by
  have ha : a ∈ r := List.mem_of_getLast? hl
  refine ⟨by rw [List.length_append, h.len]; rfl, ?_, ?_, fun x hx => ?_, h.st.snoc hl hb⟩
  · have := h.hd
    cases r with
    | nil => cases this
    | cons x r => exact this
  · rw [List.nodup_append]
    exact ⟨h.nd, by simp, fun x hx y hy e => hr (by rw [← List.mem_singleton.mp hy, ← e]; exact hx)⟩
  · rcases List.mem_append.mp hx with z | z
    · exact h.rg x z
    · rw [List.mem_singleton.mp z]
      exact (hN.rng a b (h.rg a ha) hb).1
theorem Fr.full {u v : Int} {r : List Int} (h : Fr n N u v n r) : False := by
  have := nodup_le h.nd h.rg
  have := h.len
  omega
end
end Kx
namespace Kx
open PySem PySem.Spec L2 Da
def dst (row : List (Option Int)) (x : Int) : Option Int := row.getD x.toNat none
end Kx
namespace Kx
open PySem PySem.Spec L2 Da
section
variable {n : Nat} {N : List (List Int)}
/-- a route under way: the potential falls -/
structure Dr (n : Nat) (N : List (List Int)) (P : Int → Int) (u v : Int) (i : Nat) (r : List Int) : Prop where
  fr : Fr n N u v i r
  lo : ∀ a, r.getLast? = some a → ∀ x ∈ r, P a ≤ P x
theorem Dr.one {P : Int → Int} {u v : Int} (hu : Nd n u) : Dr n N P u v 0 [u] := ⟨Fr.one hu, fun a ha x hx => by cases ha; rw [List.mem_singleton.mp hx]; exact Int.le_refl _⟩
theorem Dr.snoc {P : Int → Int} {u v : Int} {i : Nat} {r : List Int} {a b : Int} (hN : Near n N) (h : Dr n N P u v i r) (hl : r.getLast? = some a) (hb : b ∈ nb N a) (hp : P b < P a) : Dr n N P u v (i + 1) (r ++ [b]) := by
  have hr : b ∉ r := fun m => by have := h.lo a hl b m; omega
  refine ⟨h.fr.snoc hN hl hb hr, fun c hc x hx => ?_⟩
  rw [List.getLast?_concat] at hc
  cases hc
  rcases List.mem_append.mp hx with z | z
  · have := h.lo a hl x z; omega
  · rw [List.mem_singleton.mp z]; exact Int.le_refl _
/-- the same without coming back -/
inductive Ws (N : List (List Int)) (p : Int → Int → Int) (g : Int) : List Int → Int → Int → Prop
  | nil : Ws N p g [g] g 0
  | step {r : List Int} {x c w : Int} (h : c ∈ nb N x) (hr : x ∉ r) (t : Ws N p g r c w) : Ws N p g (x :: r) x (p x c + w)
theorem Ws.rg (hN : Near n N) {p : Int → Int → Int} {g : Int} (hg : Nd n g) : ∀ {r : List Int} {x w : Int}, Ws N p g r x w → Nd n x → ∀ y ∈ r, Nd n y
  | _, _, _, .nil, _ => fun y hy => by rw [List.mem_singleton.mp hy]; exact hg
  | _, _, _, .step h hr t, hx => fun y hy => by
    rcases List.mem_cons.mp hy with z | z
    · rw [z]; exact hx
    · exact Ws.rg hN hg t (hN.rng _ _ hx h).1 y z
end
end Kx
namespace Kx
open PySem PySem.Spec L2 Da
section
variable {n : Nat} {N : List (List Int)}
def Le (n : Nat) (r' r : List (Option Int)) : Prop := ∀ x, Nd n x → ∀ d, dst r x = some d → ∃ e, dst r' x = some e ∧ e ≤ d
theorem Le.rfl {r : List (Option Int)} : Le n r r := fun x _ d h => ⟨d, h, Int.le_refl _⟩
theorem Le.tr {a b c : List (Option Int)} (h : Le n a b) (k : Le n b c) : Le n a c := fun x hx d e => by
  obtain ⟨e1, h1, l1⟩ := k x hx d e
  obtain ⟨e2, h2, l2⟩ := h x hx e1 h1
  exact ⟨e2, h2, by omega⟩
/-- the edge is not too long -/
def Ok (p : Int → Int → Int) (r r0 : List (Option Int)) (x c : Int) : Prop := ∀ d, dst r0 c = some d → ∃ e, dst r x = some e ∧ e ≤ p x c + d
theorem Ok.le {p : Int → Int → Int} {r r' r0 : List (Option Int)} {x c : Int} (hx : Nd n x) (h : Ok p r r0 x c) (l : Le n r' r) : Ok p r' r0 x c := fun d hd => by
  obtain ⟨e, h1, h2⟩ := h d hd
  obtain ⟨e', h3, h4⟩ := l x hx e h1
  exact ⟨e', h3, by omega⟩
end
end Kx
namespace Kx
open PySem PySem.Spec L2 Da
theorem dlook_put {κ α : Type} [DecidableEq κ] (xs : List (κ × α)) (k : κ) (v : α) (k' : κ) : dlookN (dputN xs k v) k' = if k = k' then some v else dlookN xs k' := by
  have m1 : ∀ ys : List (κ × α), (ys.any fun p => decide (p.1 = k)) = true → dlookN (ys.map fun p => if p.1 = k then (p.1, v) else p) k' = if k = k' then some v else dlookN ys k' := by
    intro ys
    induction ys with
    | nil => intro h; cases h
    | cons p ys ih =>
      intro h
      rw [List.map_cons]
      unfold dlookN
      by_cases e : p.1 = k
      · rw [if_pos e]
        dsimp only
        by_cases e2 : k = k'
        · rw [if_pos (e.trans e2), if_pos e2]
        · rw [if_neg (fun z => e2 (e.symm.trans z)), if_neg e2, if_neg (fun z => e2 (e.symm.trans z))]
          by_cases h2 : (ys.any fun p => decide (p.1 = k)) = true
          · rw [ih h2, if_neg e2]
          · have : (ys.map fun p => if p.1 = k then (p.1, v) else p) = ys := by
              refine (List.map_congr_left fun q hq => ?_).trans (List.map_id' ys)
              rw [if_neg]
              intro e3
              exact h2 (List.any_eq_true.mpr ⟨q, hq, decide_eq_true e3⟩)
            rw [this]
      · rw [if_neg e]
        have h2 : (ys.any fun p => decide (p.1 = k)) = true := by
          rw [List.any_cons, decide_eq_false e, Bool.false_or] at h
          exact h
        rw [ih h2]
        by_cases e2 : k = k'
        · rw [if_pos e2, if_neg (fun z => e (z.trans e2.symm)), if_pos e2]
        · rw [if_neg e2, if_neg e2]
  have m2 : ∀ ys : List (κ × α), ¬ (ys.any fun p => decide (p.1 = k)) = true → dlookN (ys ++ [(k, v)]) k' = if k = k' then some v else dlookN ys k' := by
    intro ys
    induction ys with
    | nil =>
      intro _
      show (if k = k' then some v else none) = _
      rfl
    | cons p ys ih =>
      intro h
      rw [List.any_cons] at h
      have e : p.1 ≠ k := fun e => h (by rw [decide_eq_true e]; rfl)
      have h2 : ¬ (ys.any fun p => decide (p.1 = k)) = true := fun z => h (by rw [z, Bool.or_true])
      rw [List.cons_append]
      unfold dlookN
      rw [ih h2]
      by_cases e2 : k = k'
      · rw [if_pos e2, if_neg (fun z => e (z.trans e2.symm)), if_pos e2]
      · rw [if_neg e2, if_neg e2]
  unfold dputN
  by_cases h : (xs.any fun p => decide (p.1 = k)) = true
  · rw [if_pos h]; exact m1 xs h
  · rw [if_neg h]; exact m2 xs h
theorem dput_len {κ α : Type} [DecidableEq κ] (xs : List (κ × α)) (k : κ) (v : α) : (dputN xs k v).length ≤ xs.length + 1 := by
  unfold dputN
  split
  · rw [List.length_map]; omega
  · rw [List.length_append]; simp
theorem dput_ok {κ α : Type} [DecidableEq κ] {xs : List (κ × α)} {k : κ} {v : α} (h : xs.length < 1000000) : dputR xs k v = .ok (dputN xs k v) := by
  unfold dputR
  rw [if_pos (szOk_yes (by omega))]
theorem getD_lt {α : Type} {s : List α} {x d : α} {i : Nat} (h : i < s.length) : (s ++ [x]).getD i d = s.getD i d := by
  rw [List.getD_eq_getElem?_getD, List.getD_eq_getElem?_getD, List.getElem?_append_left h]
section
variable {n : Nat} {N : List (List Int)}
theorem getD_set {α : Type} {xs : List α} {i j : Nat} {x d : α} (h : i < xs.length) : (xs.set i x).getD j d = if i = j then x else xs.getD j d := by
  rw [List.getD_eq_getElem?_getD, List.getD_eq_getElem?_getD, List.getElem?_set]
  by_cases e : i = j
  · subst e; rw [if_pos rfl, if_pos h, if_pos rfl]; rfl
  · rw [if_neg e, if_neg e]
end
end Kx
namespace Kx
open PySem PySem.Spec L2 Da
theorem digs_at {sizes row : List Int} (h : Digs sizes row) {i : Nat} {s : Int} (hs : sizes[i]? = some s) : 0 ≤ row.getD i 0 ∧ row.getD i 0 < s := by
  obtain ⟨r, e, h0, h1⟩ := h.get hs
  rw [List.getD_eq_getElem?_getD, e]
  exact ⟨h0, h1⟩
end Kx
namespace Kx
open PySem PySem.Spec L2 Da
theorem law_day {n : Nat} {r : List Int} (hn : n ≤ 1000000) (hr : n ≤ r.length) (h0 : ∀ x ∈ r, 0 ≤ x) : ∃ p : List Int, N_law_day_i_li n r = .ok p ∧ p.Perm (upto n) := by
  unfold N_law_day_i_li
  rw [rngR_nat (by omega)]
  simp only [Res.bind_ok, Res.bind_assoc, Res.bind_ret]
  rw [lcR_map (g := fun x => x) (by rw [upto_length]; exact hn) (fun _ _ => rfl), List.map_id']
  dsimp only [Res.bind_ok]
  obtain ⟨s, e, hp, hl⟩ := forR_upto (n := n) (s := (upto n, ([] : List Int))) (f := fun x4 x5 => (nx ((nx ((ixR r x5).bind fun x => modR x (x4.1.length : Int))).bind fun x8 => popR x4.1 x8)).bind fun v => (appR x4.2 v.1).bind fun x => Res.ok (v.2, x))
    (fun i s => (s.2 ++ s.1).Perm (upto n) ∧ s.2.length = i) ⟨List.Perm.refl _, rfl⟩ fun i s hi hp => by
      obtain ⟨hp, hl⟩ := hp
      have hL := hp.length_eq
      rw [List.length_append, upto_length] at hL
      have a := List.getElem?_eq_getElem (show i < r.length by omega)
      have hri := h0 _ (List.getElem_mem (show i < r.length by omega))
      have hz : 0 ≤ r[i]'(by omega) % (s.1.length : Int) ∧ r[i]'(by omega) % (s.1.length : Int) < s.1.length := ⟨Int.emod_nonneg _ (by omega), Int.emod_lt_of_pos _ (by omega)⟩
      rw [ixR_nat a]; dsimp only [Res.bind_ok]
      rw [modR_pos (by omega)]; dsimp only [Res.bind_ok, nx_ok]
      rw [popR_of hz.1 hz.2 (by omega)]; dsimp only [Res.bind_ok, nx_ok]
      rw [appR_ok (by omega)]
      refine ⟨_, rfl, ?_, by dsimp only; rw [List.length_append, hl]; rfl⟩
      dsimp only
      rw [List.append_assoc]
      exact (List.Perm.append_left s.2 (take_out' (by omega))).trans hp
  rw [e]
  refine ⟨s.2, rfl, ?_⟩
  have hL := hp.length_eq
  rw [List.length_append, upto_length] at hL
  have : s.1 = [] := List.eq_nil_of_length_eq_zero (by omega)
  rw [this, List.append_nil] at hp
  exact hp
end Kx
namespace Kx
open PySem PySem.Spec L2 Da
section
variable {n : Nat}
/-- a row of n places -/
def Rg (n : Nat) (f : List Int) : Prop := f.length = n ∧ ∀ x ∈ f, Nd n x
def comp (f t : List Int) : List Int := f.map fun k => t.getD k.toNat 0
theorem comp_rg {f t : List Int} (hf : Rg n f) (ht : Rg n t) : Rg n (comp f t) := by
  refine ⟨by unfold comp; rw [List.length_map]; exact hf.1, fun x hx => ?_⟩
  obtain ⟨k, hk, rfl⟩ := List.mem_map.mp hx
  obtain ⟨j, rfl, hj⟩ := (hf.2 k hk).nat
  rw [Int.toNat_natCast]
  exact ht.2 _ (List.mem_of_getElem? (getD_some (d := 0) (i := j) (by rw [ht.1]; exact hj)))
theorem comp_lc {f t : List Int} (hn : n ≤ 1000) (hf : Rg n f) (ht : Rg n t) : lcR f (fun _ => Res.ok true) (fun x => ixR t x) = .ok (comp f t) := by
  refine lcR_map (by rw [hf.1]; omega) fun x hx => ?_
  obtain ⟨j, rfl, hj⟩ := (hf.2 x hx).nat
  rw [Int.toNat_natCast]
  exact ixR_nat (getD_some (by rw [ht.1]; exact hj))
/-- one place of the search: all steps from f -/
def rowF (f : List Int) : List (List Int) → List (List Int) → Option (List (List Int))
  | [], s => some s
  | t :: ts, s => if 24 < (if comp f t ∈ s then s else s ++ [comp f t]).length then none else rowF f ts (if comp f t ∈ s then s else s ++ [comp f t])
def closF (St : List (List Int)) : Nat → Nat → List (List Int) → Option (List (List Int))
  | 0, _, s => some s
  | m + 1, i, s => if s.length ≤ i then some s else match rowF (s.getD i []) St s with
    | none => none
    | some s' => closF St m (i + 1) s'
structure Grw (n : Nat) (s s' : List (List Int)) : Prop where
  rg : ∀ g ∈ s', Rg n g
  le : s'.length ≤ 24
  up : s.length ≤ s'.length
  pre : ∀ i, i < s.length → s'.getD i [] = s.getD i []
theorem row_grw {f : List Int} (hf : Rg n f) : ∀ (St s s' : List (List Int)), (∀ t ∈ St, Rg n t) → (∀ g ∈ s, Rg n g) → s.length ≤ 24 → rowF f St s = some s' → Grw n s s'
  | [], s, s', _, hs, hl, e => by cases e; exact ⟨hs, hl, Nat.le_refl _, fun _ _ => rfl⟩
  | t :: St, s, s', ht, hs, hl, e => by
    unfold rowF at e
    by_cases hm : comp f t ∈ s
    · rw [if_pos hm] at e
      split at e
      · cases e
      · exact row_grw hf St s s' (fun x hx => ht x (List.mem_cons_of_mem _ hx)) hs hl e
    · rw [if_neg hm] at e
      split at e
      · cases e
      · rename_i h24
        have g := row_grw hf St (s ++ [comp f t]) s' (fun x hx => ht x (List.mem_cons_of_mem _ hx)) (fun x hx => by
          rcases List.mem_append.mp hx with z | z
          · exact hs x z
          · rw [List.mem_singleton.mp z]; exact comp_rg hf (ht t List.mem_cons_self)) (by omega) e
        have := g.up
        rw [List.length_append, List.length_singleton] at this
        refine ⟨g.rg, g.le, by omega, fun i hi => ?_⟩
        rw [g.pre i (by rw [List.length_append]; omega), getD_lt hi]
/-- what the dict knows -/
def Kn (kn : List (List Int × Bool)) (s : List (List Int)) : Prop := (∀ g, dhasN kn g = decide (g ∈ s)) ∧ kn.length ≤ s.length
theorem Kn.put {kn : List (List Int × Bool)} {s : List (List Int)} (h : Kn kn s) (g : List Int) : Kn (dputN kn g true) (s ++ [g]) := by
  refine ⟨fun x => ?_, by have := dput_len kn g true; have := h.2; rw [List.length_append, List.length_singleton]; omega⟩
  have e := h.1 x
  unfold dhasN at e ⊢
  rw [dlook_put]
  by_cases c : g = x
  · rw [if_pos c]; simp [c]
  · rw [if_neg c, e, decide_eq_decide, List.mem_append, List.mem_singleton]
    exact ⟨.inl, fun z => z.resolve_right fun q => c q.symm⟩
theorem prog_row (hn : n ≤ 1000) {i : Nat} {f : List Int} (hf : Rg n f) : ∀ (St s : List (List Int)) (kn : List (List Int × Bool)), (∀ t ∈ St, Rg n t) → (∀ g ∈ s, Rg n g) → i < s.length → s.length ≤ 24 → s.getD i [] = f → Kn kn s →
    match rowF f St s with
    | some s' => ∃ kn', Kn kn' s' ∧ forR (σ := ((List (List Int)) × (List ((List Int) × Bool)))) (fun x9 x10 => (((ixR x9.1 (i : Int)).bind fun x11 => (N_composed_ti_ti x11 x10)).bind fun x12 =>
  ((if (!dhasN x9.2 x12) = true then (((Res.ok true).bind fun x21 => (Res.ok x12).bind fun x22 => dputR x9.2 x22 x21).bind fun x23 =>
  ((appR x9.1 x12).bind fun x24 =>
  Res.ok (x24, x23))) else
  Res.ok (x9.1, x9.2)).bind fun x25 =>
  (if (decide (24 < (x25.1.length : Int))) = true then (Res.ex "TooLarge" [("limit", D.int 24)]) else
  Res.ok (x25.1, x25.2))))) St (s, kn) = .ok (s', kn')
    | none => forR (σ := ((List (List Int)) × (List ((List Int) × Bool)))) (fun x9 x10 => (((ixR x9.1 (i : Int)).bind fun x11 => (N_composed_ti_ti x11 x10)).bind fun x12 =>
  ((if (!dhasN x9.2 x12) = true then (((Res.ok true).bind fun x21 => (Res.ok x12).bind fun x22 => dputR x9.2 x22 x21).bind fun x23 =>
  ((appR x9.1 x12).bind fun x24 =>
  Res.ok (x24, x23))) else
  Res.ok (x9.1, x9.2)).bind fun x25 =>
  (if (decide (24 < (x25.1.length : Int))) = true then (Res.ex "TooLarge" [("limit", D.int 24)]) else
  Res.ok (x25.1, x25.2))))) St (s, kn) = .ex "TooLarge" [("limit", D.int 24)]
  | [], s, kn, _, _, _, _, _, hk => ⟨kn, hk, rfl⟩
  | t :: St, s, kn, ht, hs, hi, hl, ei, hk => by
    have htt := ht t List.mem_cons_self
    have ht' : ∀ x ∈ St, Rg n x := fun x hx => ht x (List.mem_cons_of_mem _ hx)
    have e1 : ((ixR s (i : Int)).bind fun x11 => (N_composed_ti_ti x11 t)) = .ok (comp f t) := by
      rw [ixR_nat (getD_some (d := []) hi), ei, Res.bind_ok]
      unfold N_composed_ti_ti
      rw [comp_lc hn hf htt]
      rfl
    rw [forR_cons]
    dsimp only
    rw [e1, Res.bind_ok, hk.1]
    unfold rowF
    by_cases hm : comp f t ∈ s
    · rw [decide_eq_true hm, if_pos hm, if_neg (by omega), if_neg (by decide)]
      dsimp only [Res.bind_ok]
      rw [if_neg (by simp; omega)]
      exact prog_row hn hf St s kn ht' hs hi hl ei hk
    · rw [decide_eq_false hm, if_neg hm, if_pos (show (!false) = true from rfl)]
      have h1 := hk.2
      dsimp only [Res.bind_ok]
      rw [dput_ok (by omega), Res.bind_ok, appR_ok (by omega), Res.bind_ok, Res.bind_ok]
      dsimp only
      have hl2 : (s ++ [comp f t]).length = s.length + 1 := by simp
      by_cases h24 : 24 < (s ++ [comp f t]).length
      · rw [if_pos h24, if_pos (by simp only [decide_eq_true_eq]; omega)]
        rfl
      · rw [if_neg h24, if_neg (by simp only [decide_eq_true_eq]; omega)]
        exact prog_row hn hf St (s ++ [comp f t]) _ ht' (fun x hx => by
          rcases List.mem_append.mp hx with z | z
          · exact hs x z
          · rw [List.mem_singleton.mp z]; exact comp_rg hf htt) (by omega) (by omega) (by rw [getD_lt hi]; exact ei) (hk.put _)
theorem law_row (hn : n ≤ 1000) {i : Nat} {f : List Int} (hf : Rg n f) : ∀ (St s : List (List Int)), (∀ t ∈ St, Rg n t) → (∀ g ∈ s, Rg n g) → i < s.length → s.length ≤ 24 → s.getD i [] = f →
    forC (σ := (List (List Int))) (β := (Option (List (List Int)))) (fun x8 x9 => ((((ixR x8 (i : Int)).bind fun x11 => lcR x11 (fun x10 => Res.ok true) (fun x10 => (ixR x9 x10))).bind fun x12 => (Res.ok x12)).bind fun x13 =>
  ((if (!hasB x13 x8) = true then ((appR x8 x13).bind fun x16 =>
  Res.ok x16) else
  Res.ok x8).bind fun x17 =>
  (if (decide (24 < (x17.length : Int))) = true then Res.ok (.ret none) else
  Res.ok (.go x17))))) St s = match rowF f St s with
    | some s' => .ok (.go s')
    | none => .ok (.ret none)
  | [], s, _, _, _, _, _ => rfl
  | t :: St, s, ht, hs, hi, hl, ei => by
    have htt := ht t List.mem_cons_self
    have ht' : ∀ x ∈ St, Rg n x := fun x hx => ht x (List.mem_cons_of_mem _ hx)
    have e1 : (((ixR s (i : Int)).bind fun x11 => lcR x11 (fun x10 => Res.ok true) (fun x10 => (ixR t x10))).bind fun x12 => (Res.ok x12)) = .ok (comp f t) := by
      rw [ixR_nat (getD_some (d := []) hi), ei, Res.bind_ok, comp_lc hn hf htt]
      rfl
    rw [forC_cons]
    rw [e1, Res.bind_ok]
    unfold rowF
    by_cases hm : comp f t ∈ s
    · rw [hasB_iff.mpr hm, if_pos hm, if_neg (show ¬ 24 < s.length by omega), if_neg (by decide)]
      dsimp only [Res.bind_ok]
      rw [if_neg (by simp; omega)]
      exact law_row hn hf St s ht' hs hi hl ei
    · rw [show hasB (comp f t) s = false by
        cases q : hasB (comp f t) s with
        | false => rfl
        | true => exact absurd (hasB_iff.mp q) hm, if_neg hm, if_pos (show (!false) = true from rfl)]
      rw [appR_ok (by omega), Res.bind_ok, Res.bind_ok]
      have hl2 : (s ++ [comp f t]).length = s.length + 1 := by simp
      by_cases h24 : 24 < (s ++ [comp f t]).length
      · rw [if_pos h24, if_pos (by simp only [decide_eq_true_eq]; omega)]
        rfl
      · rw [if_neg h24, if_neg (by simp only [decide_eq_true_eq]; omega)]
        exact law_row hn hf St (s ++ [comp f t]) ht' (fun x hx => by
          rcases List.mem_append.mp hx with z | z
          · exact hs x z
          · rw [List.mem_singleton.mp z]; exact comp_rg hf htt) (by omega) (by omega) (by rw [getD_lt hi]; exact ei)
variable {St : List (List Int)}
theorem clos_rg (hSt : ∀ t ∈ St, Rg n t) : ∀ (m i : Nat) (s s' : List (List Int)), (∀ g ∈ s, Rg n g) → s.length ≤ 24 → closF St m i s = some s' → (∀ g ∈ s', Rg n g) ∧ s'.length ≤ 24
  | 0, i, s, s', hs, hl, e => by cases e; exact ⟨hs, hl⟩
  | m + 1, i, s, s', hs, hl, e => by
    unfold closF at e
    split at e
    · cases e; exact ⟨hs, hl⟩
    · rename_i hi
      split at e
      · cases e
      · rename_i s2 e2
        have hf : Rg n (s.getD i []) := hs _ (List.mem_of_getElem? (getD_some (d := []) (by omega)))
        have g := row_grw hf St s s2 hSt hs hl e2
        exact clos_rg hSt m (i + 1) s2 s' g.rg g.le e
theorem prog_clos (hn : n ≤ 1000) (hSt : ∀ t ∈ St, Rg n t) : ∀ (m F i : Nat) (s : List (List Int)) (kn : List (List Int × Bool)), i + m = 30 → m < F → (∀ g ∈ s, Rg n g) → s.length ≤ 24 → Kn kn s →
    match closF St m i s with
    | some s' => ∃ kn' i', whileC (σ := ((List (List Int)) × (List ((List Int) × Bool)) × Int)) (β := Unit) (fun x7 => Res.ok (decide (x7.2.2 < (x7.1.length : Int)))) (fun x7 => ((forR (σ := ((List (List Int)) × (List ((List Int) × Bool)))) (fun x9 x10 => (((ixR x9.1 x7.2.2).bind fun x11 => (N_composed_ti_ti x11 x10)).bind fun x12 =>
  ((if (!dhasN x9.2 x12) = true then (((Res.ok true).bind fun x21 => (Res.ok x12).bind fun x22 => dputR x9.2 x22 x21).bind fun x23 =>
  ((appR x9.1 x12).bind fun x24 =>
  Res.ok (x24, x23))) else
  Res.ok (x9.1, x9.2)).bind fun x25 =>
  (if (decide (24 < (x25.1.length : Int))) = true then (Res.ex "TooLarge" [("limit", D.int 24)]) else
  Res.ok (x25.1, x25.2))))) St (x7.1, x7.2.1)).bind fun x26 =>
  Res.ok (.go (x26.1, x26.2, (x7.2.2 + 1))))) F (s, kn, (i : Int)) = .ok (.go (s', kn', i'))
    | none => whileC (σ := ((List (List Int)) × (List ((List Int) × Bool)) × Int)) (β := Unit) (fun x7 => Res.ok (decide (x7.2.2 < (x7.1.length : Int)))) (fun x7 => ((forR (σ := ((List (List Int)) × (List ((List Int) × Bool)))) (fun x9 x10 => (((ixR x9.1 x7.2.2).bind fun x11 => (N_composed_ti_ti x11 x10)).bind fun x12 =>
  ((if (!dhasN x9.2 x12) = true then (((Res.ok true).bind fun x21 => (Res.ok x12).bind fun x22 => dputR x9.2 x22 x21).bind fun x23 =>
  ((appR x9.1 x12).bind fun x24 =>
  Res.ok (x24, x23))) else
  Res.ok (x9.1, x9.2)).bind fun x25 =>
  (if (decide (24 < (x25.1.length : Int))) = true then (Res.ex "TooLarge" [("limit", D.int 24)]) else
  Res.ok (x25.1, x25.2))))) St (x7.1, x7.2.1)).bind fun x26 =>
  Res.ok (.go (x26.1, x26.2, (x7.2.2 + 1))))) F (s, kn, (i : Int)) = .ex "TooLarge" [("limit", D.int 24)]
  | m, 0, i, s, kn, _, hF, _, _, _ => by omega
  | 0, F + 1, i, s, kn, hi, hF, hs, hl, hk => by
    refine ⟨kn, (i : Int), ?_⟩
    unfold whileC
    rw [Res.bind_ok, if_neg (by simp only [decide_eq_true_eq]; omega)]
  | m + 1, F + 1, i, s, kn, hi, hF, hs, hl, hk => by
    unfold closF whileC
    rw [Res.bind_ok]
    by_cases hc : s.length ≤ i
    · rw [if_pos hc, if_neg (by simp only [decide_eq_true_eq]; omega)]
      exact ⟨kn, (i : Int), rfl⟩
    · rw [if_neg hc, if_pos (by simp only [decide_eq_true_eq]; omega)]
      have hf : Rg n (s.getD i []) := hs _ (List.mem_of_getElem? (getD_some (d := []) (by omega)))
      have h1 := prog_row hn (i := i) hf St s kn hSt hs (by omega) hl rfl hk
      cases e : rowF (s.getD i []) St s with
      | none =>
        rw [e] at h1
        dsimp only at h1 ⊢
        rw [h1]
        rfl
      | some s2 =>
        rw [e] at h1
        obtain ⟨kn2, k2, e2⟩ := h1
        have g := row_grw hf St s s2 hSt hs hl e
        dsimp only at e2 ⊢
        rw [e2]
        dsimp only [Res.bind_ok]
        have h3 := prog_clos hn hSt m F (i + 1) s2 kn2 (by omega) (by omega) g.rg g.le k2
        rw [show (i : Int) + 1 = ((i + 1 : Nat) : Int) by omega]
        exact h3
theorem law_clos (hn : n ≤ 1000) (hSt : ∀ t ∈ St, Rg n t) : ∀ (m i : Nat) (s : List (List Int)), i + m = 30 → (∀ g ∈ s, Rg n g) → s.length ≤ 24 →
    forC (σ := (List (List Int))) (β := (Option (List (List Int)))) (fun x6 x7 => (if (decide ((x6.length : Int) ≤ x7)) = true then Res.ok (.out x6) else
  ((forC (σ := (List (List Int))) (β := (Option (List (List Int)))) (fun x8 x9 => ((((ixR x8 x7).bind fun x11 => lcR x11 (fun x10 => Res.ok true) (fun x10 => (ixR x9 x10))).bind fun x12 => (Res.ok x12)).bind fun x13 =>
  ((if (!hasB x13 x8) = true then ((appR x8 x13).bind fun x16 =>
  Res.ok x16) else
  Res.ok x8).bind fun x17 =>
  (if (decide (24 < (x17.length : Int))) = true then Res.ok (.ret none) else
  Res.ok (.go x17))))) St x6).bind (ctlK (fun x18 => Res.ok (.go x18)) (fun v => Ctl.ret v))))) ((List.range' i m).map fun (k : Nat) => (k : Int)) s = match closF St m i s with
    | some s' => .ok (.go s')
    | none => .ok (.ret none)
  | 0, i, s, _, _, _ => rfl
  | m + 1, i, s, hi, hs, hl => by
    rw [List.range'_succ, List.map_cons, forC_cons]
    unfold closF
    by_cases hc : s.length ≤ i
    · rw [if_pos hc, if_pos (by simp only [decide_eq_true_eq]; omega)]
      rfl
    · rw [if_neg hc, if_neg (by simp only [decide_eq_true_eq]; omega)]
      have hf : Rg n (s.getD i []) := hs _ (List.mem_of_getElem? (getD_some (d := []) (by omega)))
      rw [law_row hn (i := i) hf St s hSt hs (by omega) hl rfl]
      cases e : rowF (s.getD i []) St s with
      | none => rfl
      | some s2 =>
        have g := row_grw hf St s s2 hSt hs hl e
        exact law_clos hn hSt m (i + 1) s2 (by omega) g.rg g.le
end
end Kx
namespace Kx
open PySem PySem.Spec L2 Da
section
variable {n : Nat} {St : List (List Int)}
theorem perm08 {d : List Int} (hl : d.length = n) (nd : d.Nodup) (rg : ∀ x ∈ d, Nd n x) : d.Perm (upto n) := by
  refine (List.perm_ext_iff_of_nodup nd upto_nodup).mpr fun a => ⟨fun m => mem_upto.mpr (rg a m), fun m => ?_⟩
  refine Classical.byContradiction fun hn => ?_
  have h2 := nodup_le (n := n) (List.nodup_cons.mpr ⟨hn, nd⟩) fun x hx => by
    rcases List.mem_cons.mp hx with rfl | hx
    · exact mem_upto.mp m
    · exact rg x hx
  rw [List.length_cons, hl] at h2
  omega
theorem perm_rg {t : List Int} (h : t.Perm (upto n)) : Rg n t := ⟨by rw [h.length_eq, upto_length], fun x hx => mem_upto.mp (h.mem_iff.mp hx)⟩
theorem upto_srt : (upto n).Pairwise (fun a b => leI a b = true) := by
  unfold upto
  refine List.pairwise_map.mpr (List.pairwise_lt_range.imp fun {a b} h => ?_)
  unfold leI
  simp
  omega
theorem sort08 {t : List Int} (h : t.Perm (upto n)) : t.mergeSort leI = upto n := by
  have tr : ∀ a b c : Int, leI a b = true → leI b c = true → leI a c = true := fun a b c h1 h2 => by unfold leI at *; simp at *; omega
  have tt : ∀ a b : Int, (leI a b || leI b a) = true := fun a b => by unfold leI; simp; omega
  refine PySem.W.Srt.one _ _ ((List.mergeSort_perm t leI).trans h) ?_ ?_
  · exact (List.pairwise_mergeSort tr tt t).imp fun h => by simpa [leI] using h
  · exact upto_srt.imp fun h => by simpa [leI] using h
theorem isp_any {t : List Int} (hn : n ≤ 1000) (hl : t.length ≤ 1000) : N_is_perm_ti_i t n = .ok (decide (t.length = n) && decide (t.mergeSort leI = upto n)) := by
  unfold N_is_perm_ti_i
  rw [frozen_t t (by omega)]
  dsimp only [Res.bind_ok]
  by_cases e : t.length = n
  · rw [if_neg (by simp [e]), lcR_map (g := fun _ => true) (by omega) fun x _ => rfl]
    dsimp only [Res.bind_ok]
    have ea : (t.map fun _ => true).all id = true := List.all_eq_true.mpr fun b hb => by
      obtain ⟨x, _, rfl⟩ := List.mem_map.mp hb
      rfl
    rw [ea, if_neg (by decide), rngLR_ok (by omega) (by omega), Int.toNat_natCast, decide_eq_true e]
    rfl
  · rw [if_pos (by simp; omega)]
    dsimp only [Res.bind_ok]
    rw [if_pos rfl, decide_eq_false e]
    rfl
theorem isp_true {t : List Int} (hn : n ≤ 1000) (h : t.Perm (upto n)) : N_is_perm_ti_i t n = .ok true := by
  have hl : t.length = n := by rw [h.length_eq, upto_length]
  rw [isp_any hn (by omega), decide_eq_true hl, decide_eq_true (sort08 h)]
  rfl
theorem isp_false {t : List Int} (hn : n ≤ 1000) (hl : t.length ≤ 1000) (h : t.length ≠ n ∨ ∃ x ∈ t, ¬ Nd n x) : N_is_perm_ti_i t n = .ok false := by
  rw [isp_any hn hl]
  rcases h with h | ⟨x, hx, h⟩
  · rw [decide_eq_false h]; rfl
  · rw [decide_eq_false (p := t.mergeSort leI = upto n) fun e => h ?_, Bool.and_false]
    have := (List.mergeSort_perm t leI).mem_iff.mpr hx
    rw [e] at this
    exact mem_upto.mp this
theorem forR_exP {α : Type} {f : Unit → α → Res Unit} {c : Str} {fs : List (Str × D)} {x : α} : ∀ {xs : List α} {k : Nat}, xs[k]? = some x → (∀ (i : Nat) y, i < k → xs[i]? = some y → f () y = .ok ()) → f () x = .ex c fs → forR f xs () = .ex c fs
  | [], k, h, _, _ => by simp at h
  | y :: xs, 0, h, _, h2 => by
    have hx : y = x := by simpa using h
    rw [forR_cons, hx, h2]
    rfl
  | y :: xs, k + 1, h, h1, h2 => by
    rw [forR_cons, h1 0 y (by omega) rfl]
    exact forR_exP (k := k) (by simpa using h) (fun i z hi hz => h1 (i + 1) z (by omega) (by simpa using hz)) h2
theorem enumI_at {α : Type} : ∀ (xs : List α) (i k : Nat), (enumI i xs)[k]? = (xs[k]?).map fun x => (((i + k : Nat) : Int), x)
  | [], i, k => by unfold enumI; simp
  | x :: xs, i, 0 => rfl
  | x :: xs, i, k + 1 => by
    unfold enumI
    rw [List.getElem?_cons_succ, List.getElem?_cons_succ, enumI_at xs (i + 1) k, show i + 1 + k = i + (k + 1) by omega]
theorem mem_enumI {α : Type} {xs : List α} : ∀ {i : Nat} {q : Int × α}, q ∈ enumI i xs → q.2 ∈ xs := by
  induction xs with
  | nil => intro i q h; cases h
  | cons x xs ih =>
    intro i q h
    rcases List.mem_cons.mp h with e | e
    · rw [e]; exact List.mem_cons_self
    · exact List.mem_cons_of_mem _ (ih e)
/-- the steps that are looked at -/
structure Sm (St : List (List Int)) : Prop where
  few : St.length ≤ 1000
  len : ∀ t ∈ St, t.length ≤ 1000
theorem frozen_l8 (h : Sm St) : N_frozen_lli St = .ok St := by
  unfold N_frozen_lli
  simp only [Res.bind_ret]
  refine (lcR_map (g := fun x => x) (by have := h.few; omega) fun x hx => ?_).trans (by rw [List.map_id'])
  unfold N_frozen_li
  simp only [Res.bind_ret]
  exact (lcR_map (g := fun x => x) (by have := h.len x hx; omega) fun y _ => rfl).trans (by rw [List.map_id'])
theorem good_loop (hn : n ≤ 1000) (hp : ∀ t ∈ St, t.Perm (upto n)) : forR (σ := Unit) (fun x2 (x3 : Int × List Int) => (((N_is_perm_ti_i x3.2 n).bind fun x4 => Res.ok (!x4)).bind fun x5 => if x5 = true then (Res.ex "BadStep" [("index", D.int x3.1)]) else
  Res.ok ())) (enumI 0 St) () = .ok () := by
  refine (tr_forR (Q := fun s => s = ()) (fun _ _ => True) trivial (fun i x s hx _ => ?_) fun _ _ => rfl).eq
  rw [isp_true hn (hp _ (mem_enumI (List.mem_of_getElem? hx)))]
  exact Tr.ok trivial
theorem bad_loop (hn : n ≤ 1000) {k : Nat} (hk : k < St.length) (good : ∀ i, i < k → (St.getD i []).Perm (upto n)) (bad : N_is_perm_ti_i (St.getD k []) n = .ok false) : forR (σ := Unit) (fun x2 (x3 : Int × List Int) => (((N_is_perm_ti_i x3.2 n).bind fun x4 => Res.ok (!x4)).bind fun x5 => if x5 = true then (Res.ex "BadStep" [("index", D.int x3.1)]) else
  Res.ok ())) (enumI 0 St) () = .ex "BadStep" [("index", D.int (k : Int))] := by
  refine forR_exP (x := ((k : Int), St.getD k [])) (k := k) ?_ ?_ ?_
  · rw [enumI_at, getD_some (d := []) hk, Nat.zero_add]; rfl
  · intro i y hi hy
    rw [enumI_at, getD_some (d := []) (by omega)] at hy
    cases hy
    rw [isp_true hn (good i hi)]
    rfl
  · rw [bad]
    rfl
theorem group_l (hn : n ≤ 1000) (n0 : 0 < n) (h : Sm St) (hp : ∀ t ∈ St, t.Perm (upto n)) : N_group_i_lli n St = match closF St 30 0 [upto n] with
    | some s => .ok (s.mergeSort leT)
    | none => .ex "TooLarge" [("limit", D.int 24)] := by
  have hS : ∀ t ∈ St, Rg n t := fun t ht => perm_rg (hp t ht)
  have h0 : ∀ g ∈ [upto n], Rg n g := fun g hg => by rw [List.mem_singleton.mp hg]; exact perm_rg (List.Perm.refl _)
  have hk : Kn [(upto n, true)] [upto n] := by
    refine ⟨fun g => ?_, Nat.le_refl _⟩
    unfold dhasN dlookN
    dsimp only
    by_cases c : upto n = g
    · rw [if_pos c]; simp [c]
    · rw [if_neg c, decide_eq_false (by rw [List.mem_singleton]; exact fun z => c z.symm)]; rfl
  have key := prog_clos hn hS 30 FUEL 0 [upto n] [(upto n, true)] (by omega) (by unfold FUEL; omega) h0 (by simp) hk
  unfold N_group_i_lli N_checked_steps_i_lli N_identity_i
  rw [frozen_l8 h, Res.bind_ok, good_loop hn hp, Res.bind_ok, Res.bind_ok, rngLR_ok (by omega) (by omega), Int.toNat_natCast]
  dsimp only [Res.bind_ok]
  cases e : closF St 30 0 [upto n] with
  | none =>
    rw [e] at key
    dsimp only [Res.bind_ok] at key ⊢
    rw [show ((0 : Nat) : Int) = 0 from rfl] at key
    rw [key]
    rfl
  | some s =>
    rw [e] at key
    obtain ⟨kn, i, key⟩ := key
    dsimp only [Res.bind_ok] at key
    rw [show ((0 : Nat) : Int) = 0 from rfl] at key
    obtain ⟨g1, g2⟩ := clos_rg hS 30 0 _ s h0 (by simp) e
    rw [key]
    show (sortTR s).bind _ = _
    unfold sortTR
    rw [if_pos (List.all_eq_true.mpr fun g hg => by
      have := (g1 g hg).1
      cases g with
      | nil => simp at this; omega
      | cons _ _ => rfl)]
    rfl
theorem group_t (hn : n ≤ 1000) (h : Sm St) : N_group_i_lti n St = N_group_i_lli n St := by
  unfold N_group_i_lli N_checked_steps_i_lli N_group_i_lti N_checked_steps_i_lti
  rw [frozen_l8 h, frozen_lt St (by have := h.few; omega) fun x hx => by have := h.len x hx; omega]
theorem closure (hn : n ≤ 1000) (n0 : 0 < n) (hp : ∀ t ∈ St, t.Perm (upto n)) : N_law_closure_i_lti n St = match closF St 30 0 [upto n] with
    | some s => .ok (some (s.mergeSort leT))
    | none => .ok none := by
  have hS : ∀ t ∈ St, Rg n t := fun t ht => perm_rg (hp t ht)
  have h0 : ∀ g ∈ [upto n], Rg n g := fun g hg => by rw [List.mem_singleton.mp hg]; exact perm_rg (List.Perm.refl _)
  unfold N_law_closure_i_lti
  rw [rngR_nat (by omega), Res.bind_ok, lcR_map (g := fun x => x) (by rw [upto_length]; omega) fun x _ => rfl, List.map_id']
  dsimp only [Res.bind_ok]
  rw [show rngR 30 = .ok ((List.range' 0 30).map fun (k : Nat) => (k : Int)) by rw [show rngR 30 = .ok (upto 30) from rngR_nat (n := 30) (by omega)]; unfold upto; rw [List.range_eq_range'], Res.bind_ok]
  rw [law_clos hn hS 30 0 [upto n] (by omega) h0 (by simp)]
  cases e : closF St 30 0 [upto n] with
  | none => rfl
  | some s =>
    obtain ⟨g1, g2⟩ := clos_rg hS 30 0 _ s h0 (by simp) e
    show (sortTR s).bind _ = _
    unfold sortTR
    rw [if_pos (List.all_eq_true.mpr fun g hg => by
      have := (g1 g hg).1
      cases g with
      | nil => simp at this; omega
      | cons _ _ => rfl)]
    rfl
theorem asked_exl {door : Int} {c : Str} {fs : List (Str × D)} {z : Int} {w f : Str} (h : N_group_i_lli n St = .ex c fs) (hc : (c = "BadStep" ∧ fs = ([("index", D.int z)] : List (Str × D)) ∧ w = Str.ofString "step") ∨ (c = "TooLarge" ∧ fs = ([("limit", D.int z)] : List (Str × D)) ∧ w = Str.ofString "large")) :
    N_law_asked_i_i_lli door n St = .ok (eH2 D.str D.int (w, z)) := by
  have e : (if (decide (door = 1)) = true then ((((N_step_net_i_lli n St).bind fun x1 => (Res.ok x1.1)).bind fun x2 => (Res.ok ((Str.ofString "size"), x2))).bind fun x3 => Res.ok ((eH2 D.str D.int) x3)) else
  (if (decide (door = 2)) = true then ((((N_step_turns_i_lli n St).bind fun x4 => (Res.ok (x4.length : Int))).bind fun x5 => (Res.ok ((Str.ofString "size"), x5))).bind fun x6 => Res.ok ((eH2 D.str D.int) x6)) else
  (((N_group_i_lli n St).bind fun x7 => (Res.ok ((Str.ofString "made"), x7))).bind fun x8 => Res.ok ((eH2 D.str (eT (eT D.int))) x8)))) = .ex c fs := by
    unfold N_step_net_i_lli N_step_turns_i_lli
    rw [h]
    split
    · rfl
    · split <;> rfl
  unfold N_law_asked_i_i_lli
  rw [e]
  rcases hc with ⟨rfl, rfl, rfl⟩ | ⟨rfl, rfl, rfl⟩ <;> rfl
theorem asked_ext {door : Int} {c : Str} {fs : List (Str × D)} {z : Int} {w f : Str} (h : N_group_i_lti n St = .ex c fs) (hc : (c = "BadStep" ∧ fs = ([("index", D.int z)] : List (Str × D)) ∧ w = Str.ofString "step") ∨ (c = "TooLarge" ∧ fs = ([("limit", D.int z)] : List (Str × D)) ∧ w = Str.ofString "large")) :
    N_law_asked_i_i_lti door n St = .ok (eH2 D.str D.int (w, z)) := by
  have e : (if (decide (door = 1)) = true then ((((N_step_net_i_lti n St).bind fun x1 => (Res.ok x1.1)).bind fun x2 => (Res.ok ((Str.ofString "size"), x2))).bind fun x3 => Res.ok ((eH2 D.str D.int) x3)) else
  (if (decide (door = 2)) = true then ((((N_step_turns_i_lti n St).bind fun x4 => (Res.ok (x4.length : Int))).bind fun x5 => (Res.ok ((Str.ofString "size"), x5))).bind fun x6 => Res.ok ((eH2 D.str D.int) x6)) else
  (((N_group_i_lti n St).bind fun x7 => (Res.ok ((Str.ofString "made"), x7))).bind fun x8 => Res.ok ((eH2 D.str (eT (eT D.int))) x8)))) = .ex c fs := by
    unfold N_step_net_i_lti N_step_turns_i_lti
    rw [h]
    split
    · rfl
    · split <;> rfl
  unfold N_law_asked_i_i_lti
  rw [e]
  rcases hc with ⟨rfl, rfl, rfl⟩ | ⟨rfl, rfl, rfl⟩ <;> rfl
theorem eq_si {s : Str} (z : Int) (h : PyData.strOk s = true) : eqD (eH2 D.str D.int (s, z)) (eH2 D.str D.int (s, z)) = .ok true := by
  have py : D.py (eH2 D.str D.int (s, z)) = some (.list [.str s, .int z]) := rfl
  have sh : SeqAt.shaped (.list [.str s, .int z]) = true := by simp [SeqAt.shaped, PyData.canLay0, PyData.canLayAll0, PyData.depth, PyData.depthAll, h]
  unfold eqD
  rw [py]
  dsimp only
  rw [sh]
  show (if true = true then Res.ok _ else _) = _
  rw [if_pos rfl]
  congr 1
  simp [PyData.eqv, PyData.eqvAll]
theorem eq_si2 {s : Str} (z : Int) (h : PyData.strOk s = true) : eqD ((eH2 (fun d : D => d) (fun d : D => d)) (eH2 D.str D.int (s, z), eH2 D.str D.int (s, z))) ((eL (fun d : D => d)) [eH2 D.str D.int (s, z), eH2 D.str D.int (s, z)]) = .ok true := by
  have py : D.py ((eH2 (fun d : D => d) (fun d : D => d)) (eH2 D.str D.int (s, z), eH2 D.str D.int (s, z))) = some (.list [.list [.str s, .int z], .list [.str s, .int z]]) := rfl
  have py2 : D.py ((eL (fun d : D => d)) [eH2 D.str D.int (s, z), eH2 D.str D.int (s, z)]) = some (.list [.list [.str s, .int z], .list [.str s, .int z]]) := rfl
  have sh : SeqAt.shaped (.list [.list [.str s, .int z], .list [.str s, .int z]]) = true := by simp [SeqAt.shaped, PyData.canLay0, PyData.canLayAll0, PyData.depth, PyData.depthAll, h]
  unfold eqD
  rw [py, py2]
  dsimp only
  rw [sh]
  show (if true = true then Res.ok _ else _) = _
  rw [if_pos rfl]
  congr 1
  simp [PyData.eqv, PyData.eqvAll]
theorem eq_s {s : Str} (h : PyData.strOk s = true) : eqD (D.str s) (D.str s) = .ok true := by
  have sh : SeqAt.shaped (PyData.str s) = true := by simp [SeqAt.shaped, PyData.canLay0, PyData.depth, h]
  unfold eqD
  simp only [D.py]
  rw [sh]
  show (if true = true then Res.ok _ else _) = _
  rw [if_pos rfl]
  congr 1
  simp [PyData.eqv]
theorem deq1 {x y : D} (h : eqD x y = .ok true) : ((dEq x y).bind asB) = .ok true := by unfold dEq; rw [h]; rfl
theorem dne0 {x y : D} (h : eqD x y = .ok true) : ((dNe x y).bind asB) = .ok false := by unfold dNe; rw [h]; rfl
theorem same_r8 (x : List Int) (h : x.length ≤ 1000000) : N_law_same_ti_ti x x = .ok true := by
  unfold N_law_same_ti_ti
  rw [if_neg (by simp), rngR_nat (by omega)]
  dsimp only [Res.bind_ok]
  refine Tr.eq (tr_all (fun i hi => ?_) (Tr.ok rfl))
  have hi := mem_upto.mp hi
  have e := ixR_of (xs := x) (i := i) (x := x[i.toNat]'(by omega)) hi.1 (List.getElem?_eq_getElem (by omega))
  rw [e]
  dsimp only [Res.bind_ok]
  rw [law_same_i]
  exact Tr.of (by simp) rfl
theorem same_rr8 (x : List (List Int)) (h : x.length ≤ 1000000) (h2 : ∀ r ∈ x, r.length ≤ 1000000) : N_law_same_tti_lti x x = .ok true := by
  unfold N_law_same_tti_lti
  rw [if_neg (by simp), rngR_nat (by omega)]
  dsimp only [Res.bind_ok]
  refine Tr.eq (tr_all (fun i hi => ?_) (Tr.ok rfl))
  have hi := mem_upto.mp hi
  have e := ixR_of (xs := x) (i := i) (x := x[i.toNat]'(by omega)) hi.1 (List.getElem?_eq_getElem (by omega))
  rw [e]
  dsimp only [Res.bind_ok]
  rw [same_r8 _ (h2 _ (List.getElem_mem _))]
  exact Tr.of rfl rfl
theorem dec_all8 {α : Type} {f : D → Option α} {e : α → D} (h : ∀ a, f (e a) = some a) : ∀ as : List α, decAll f (as.map e) = some as
  | [] => rfl
  | a :: as => by
    rw [List.map_cons]
    unfold decAll
    rw [h a, dec_all8 h as]
theorem told (hn : n ≤ 1000) (n0 : 0 < n) (h : Sm St) (hp : ∀ t ∈ St, t.Perm (upto n)) : N_law_told_i_lti n St = .ok true := by
  have hS : ∀ t ∈ St, Rg n t := fun t ht => perm_rg (hp t ht)
  have h0 : ∀ g ∈ [upto n], Rg n g := fun g hg => by rw [List.mem_singleton.mp hg]; exact perm_rg (List.Perm.refl _)
  have so1 : PyData.strOk (Str.ofString "large") = true := by decide +kernel
  have so2 : PyData.strOk (Str.ofString "made") = true := by decide +kernel
  have gl := group_l hn n0 h hp
  have cp : lcR St (fun x2 => Res.ok true) (fun x2 => (Res.ok x2)) = .ok St := (lcR_map (g := fun x => x) (by have := h.few; omega) fun x _ => rfl).trans (by rw [List.map_id'])
  unfold N_law_told_i_lti
  rw [closure hn n0 hp, cp]
  cases e : closF St 30 0 [upto n] with
  | none =>
    rw [e] at gl
    dsimp only at gl
    have gt : N_group_i_lti n St = .ex "TooLarge" [("limit", D.int 24)] := (group_t hn h).trans gl
    dsimp only [Res.bind_ok]
    rw [asked_exl (f := "") gl (.inr ⟨rfl, rfl, rfl⟩), Res.bind_ok]
    show (((N_law_asked_i_i_lli 1 n St).bind fun x6 => ((N_law_asked_i_i_lti 2 n St).bind fun x7 => (Res.ok (x6, x7)))).bind fun x8 => _) = _
    rw [asked_exl (f := "") gl (.inr ⟨rfl, rfl, rfl⟩), asked_ext (f := "") gt (.inr ⟨rfl, rfl, rfl⟩)]
    dsimp only [Res.bind_ok]
    rw [deq1 (eq_si 24 so1), Res.bind_ok, if_pos rfl, deq1 (eq_si2 24 so1)]
    rfl
  | some s =>
    rw [e] at gl
    dsimp only at gl
    obtain ⟨g1, g2⟩ := clos_rg hS 30 0 _ s h0 (by simp) e
    have pm := List.mergeSort_perm s leT
    have as : N_law_asked_i_i_lli 0 n St = .ok (eH2 D.str (eT (eT D.int)) (Str.ofString "made", s.mergeSort leT)) := by
      unfold N_law_asked_i_i_lli
      rw [gl]
      rfl
    dsimp only [Res.bind_ok]
    rw [as, Res.bind_ok]
    show (((dIx (eH2 D.str (eT (eT D.int)) (Str.ofString "made", s.mergeSort leT)) (D.int 0)).bind fun x10 => ((dEq x10 (D.str (Str.ofString "made"))).bind asB)).bind fun x15 => _) = _
    have i0 : dIx (eH2 D.str (eT (eT D.int)) (Str.ofString "made", s.mergeSort leT)) (D.int 0) = .ok (D.str (Str.ofString "made")) := rfl
    have i1 : dIx (eH2 D.str (eT (eT D.int)) (Str.ofString "made", s.mergeSort leT)) (D.int 1) = .ok (eT (eT D.int) (s.mergeSort leT)) := rfl
    rw [i0, i1, Res.bind_ok, deq1 (eq_s so2), Res.bind_ok, if_pos rfl]
    have dc : decR (decT (decT decI)) (.ok (eT (eT D.int) (s.mergeSort leT))) = .ok (s.mergeSort leT) := by
      unfold decR
      rw [Res.bind_ok]
      have : decT (decT decI) (eT (eT D.int) (s.mergeSort leT)) = some (s.mergeSort leT) := dec_all8 (f := decT decI) (e := eT D.int) (fun a => dec_all8 (f := decI) (e := D.int) (fun _ => rfl) a) _
      rw [this]
    rw [dc, Res.bind_ok, same_rr8 _ (by rw [pm.length_eq]; omega) fun r hr => by rw [(g1 r (pm.mem_iff.mp hr)).1]; omega]
    dsimp only [Res.bind_ok]
    rw [if_pos rfl, decide_eq_true rfl]
end
end Kx
namespace Kx
open PySem PySem.Spec L2 Da
section
variable {n : Nat}
theorem cutd {α : Type} {xs : List α} (k : Nat) : cutN xs (some (k : Int)) none = xs.drop k := by
  unfold cutN
  rw [HT.sIx_none, HT.sIx_nat]
  by_cases h : k ≤ xs.length
  · rw [Nat.min_eq_left h]
    exact List.take_of_length_le (by simp)
  · rw [Nat.min_eq_right (by omega), List.drop_of_length_le (by omega), List.drop_of_length_le (by omega)]
    simp
theorem cutt {α : Type} {xs : List α} (k : Nat) : cutN xs none (some (k : Int)) = xs.take k := by
  unfold cutN
  rw [HT.sIx_none, HT.sIx_nat, List.drop_zero, Nat.sub_zero]
  by_cases h : k ≤ xs.length
  · rw [Nat.min_eq_left h]
  · rw [Nat.min_eq_right (by omega), List.take_of_length_le (Nat.le_refl _), List.take_of_length_le (by omega)]
theorem map_perm {f : Int → Int} (rg : ∀ u, Nd n u → Nd n (f u)) (inj : ∀ u v, Nd n u → Nd n v → f u = f v → u = v) : ((upto n).map f).Perm (upto n) := by
  refine perm08 (by rw [List.length_map, upto_length]) ?_ fun x hx => ?_
  · refine (List.pairwise_map (l := upto n)).mpr ((upto_nodup (n := n)).imp_of_mem fun {x y} hx hy hne z => hne ?_)
    exact inj x y (mem_upto.mp hx) (mem_upto.mp hy) z
  · obtain ⟨u, hu, rfl⟩ := (List.mem_map (l := upto n)).mp hx
    exact rg u (mem_upto.mp hu)
theorem shift_perm (h0 : 0 < n) (h8 : n ≤ 8) (b : Int) : ((upto n).map fun k => (k + b) % (n : Int)).Perm (upto n) := by
  rcases (show n = 1 ∨ n = 2 ∨ n = 3 ∨ n = 4 ∨ n = 5 ∨ n = 6 ∨ n = 7 ∨ n = 8 by omega) with rfl | rfl | rfl | rfl | rfl | rfl | rfl | rfl <;> refine map_perm (fun u hu => ?_) (fun u v hu hv e => ?_) <;> unfold Nd at * <;> omega
theorem refl_perm (h0 : 0 < n) (h8 : n ≤ 8) (b : Int) : ((upto n).map fun k => (b - k) % (n : Int)).Perm (upto n) := by
  rcases (show n = 1 ∨ n = 2 ∨ n = 3 ∨ n = 4 ∨ n = 5 ∨ n = 6 ∨ n = 7 ∨ n = 8 by omega) with rfl | rfl | rfl | rfl | rfl | rfl | rfl | rfl <;> refine map_perm (fun u hu => ?_) (fun u v hu hv e => ?_) <;> unfold Nd at * <;> omega
theorem upto_getE {k : Nat} (h : k < n) : (upto n)[k]'(by rw [upto_length]; exact h) = (k : Int) := by
  unfold upto
  rw [List.getElem_map, List.getElem_range]
theorem swap_perm {a b : Nat} (ha : a < n) (hb : b < n) : (((upto n).set a (b : Int)).set b (a : Int)).Perm (upto n) := by
  have := List.set_set_perm (as := upto n) (i := a) (j := b) (by rw [upto_length]; exact ha) (by rw [upto_length]; exact hb)
  rw [upto_getE ha, upto_getE hb] at this
  exact this
theorem mod_at {z : Int} (h0 : 0 < n) : ∃ a : Nat, a < n ∧ z % (n : Int) = (a : Int) := ⟨(z % (n : Int)).toNat, by have := Int.emod_lt_of_pos z (show (0 : Int) < n by omega); have := Int.emod_nonneg z (show (n : Int) ≠ 0 by omega); omega, by have := Int.emod_nonneg z (show (n : Int) ≠ 0 by omega); omega⟩
theorem copy_upto (hn : n ≤ 1000) : ((rngR (n : Int)).bind fun x21 => lcR x21 (fun x20 => Res.ok true) (fun x20 => (Res.ok x20))) = .ok (upto n) := by
  rw [rngR_nat (by omega), Res.bind_ok]
  exact (lcR_map (g := fun x => x) (by rw [upto_length]; omega) fun x _ => rfl).trans (by rw [List.map_id'])
theorem law_step (h0 : 0 < n) (h8 : n ≤ 8) {r : List Int} (hl : r.length = 12) (hr : ∀ x ∈ r, 0 ≤ x) : Tr (N_law_step_i_li n r) fun t => t.Perm (upto n) := by
  have at_ : ∀ k : Nat, k < 12 → ixR r (k : Int) = .ok (r.getD k 0) := fun k hk => ixR_nat (getD_some (by omega))
  have a0 := at_ 0 (by omega)
  have a1 := at_ 1 (by omega)
  have a2 := at_ 2 (by omega)
  unfold N_law_step_i_li
  rw [show ixR r 0 = .ok (r.getD 0 0) from a0, show ixR r 1 = .ok (r.getD 1 0) from a1, show ixR r 2 = .ok (r.getD 2 0) from a2]
  dsimp only [Res.bind_ok]
  by_cases c1 : r.getD 0 0 ≤ 1
  · rw [if_pos (decide_eq_true c1), show cutN r (some 4) none = r.drop 4 from cutd 4]
    obtain ⟨p, e, hp⟩ := law_day (n := n) (r := r.drop 4) (by omega) (by rw [List.length_drop]; omega) fun x hx => hr x (List.mem_of_mem_drop hx)
    exact ⟨p, e, hp⟩
  rw [if_neg (by rw [decide_eq_true_iff]; exact c1)]
  by_cases c2 : r.getD 0 0 = 2
  · rw [if_pos (decide_eq_true c2), rngR_nat (by omega)]
    refine Tr.of ?_ (shift_perm h0 h8 (r.getD 1 0))
    rw [Res.bind_ok, lcR_map (g := fun k => (k + r.getD 1 0) % (n : Int)) (by rw [upto_length]; omega) fun x _ => modR_pos (by omega)]
    rfl
  rw [if_neg (by rw [decide_eq_true_iff]; exact c2)]
  by_cases c3 : r.getD 0 0 = 3
  · rw [if_pos (decide_eq_true c3), rngR_nat (by omega)]
    refine Tr.of ?_ (refl_perm h0 h8 (r.getD 1 0))
    rw [Res.bind_ok, lcR_map (g := fun k => (r.getD 1 0 - k) % (n : Int)) (by rw [upto_length]; omega) fun x _ => modR_pos (by omega)]
    rfl
  rw [if_neg (by rw [decide_eq_true_iff]; exact c3), modR_pos (by omega), modR_pos (by omega)]
  dsimp only [Res.bind_ok]
  obtain ⟨a, ha, ea⟩ := mod_at (z := r.getD 1 0) h0
  obtain ⟨b, hb, eb⟩ := mod_at (z := r.getD 2 0) h0
  rw [ea, eb]
  refine bind_eq (copy_upto (by omega)) ?_
  rw [setR_of (by omega) (by rw [upto_length]; omega)]
  dsimp only [Res.bind_ok]
  rw [setR_of (by omega) (by rw [List.length_set, upto_length]; omega)]
  exact Tr.ok (swap_perm ha hb)
def stp8 (names : List Int) (m : List Int) (q : Int × Int) : List Int := m.set (names.getD q.1.toNat 0).toNat (names.getD q.2.toNat 0)
def prs8 (c : List Int) : List (Int × Int) := (upto c.length).map fun k => (c.getD k.toNat 0, c.getD ((k + 1) % (c.length : Int)).toNat 0)
theorem stp8_len {names m : List Int} {q : Int × Int} : (stp8 names m q).length = m.length := by unfold stp8; rw [List.length_set]
theorem foldl_len {names : List Int} : ∀ (ps : List (Int × Int)) (m : List Int), (ps.foldl (stp8 names) m).length = m.length
  | [], m => rfl
  | q :: ps, m => by rw [List.foldl_cons, foldl_len ps, stp8_len]
theorem one_cycle (hn : n ≤ 1000) {names : List Int} (hp : names.Perm (upto n)) {c : List Int} (hc : ∀ x ∈ c, Nd n x) (hl : c.length ≤ 1000) {m : List Int} (hm : m.length = n) :
    ((rngR (c.length : Int)).bind fun x14 => (forR (σ := (List Int)) (fun x6 x7 => (((((modR (x7 + 1) (c.length : Int)).bind fun x8 => (ixR c x8)).bind fun x9 => (ixR names x9)).bind fun x11 => (((ixR c x7).bind fun x10 => (ixR names x10)).bind fun x12 => (setR x6 x12 x11))).bind fun x13 =>
  Res.ok x13)) x14 m)) = .ok ((prs8 c).foldl (stp8 names) m) := by
  have nl : names.length = n := by rw [hp.length_eq, upto_length]
  rw [rngR_nat (by omega), Res.bind_ok]
  have nm : ∀ x, Nd n x → ixR names x = .ok (names.getD x.toNat 0) ∧ Nd n (names.getD x.toNat 0) := fun x hx => by
    obtain ⟨j, rfl, hj⟩ := hx.nat
    have e := getD_some (d := 0) (xs := names) (i := j) (by omega)
    rw [Int.toNat_natCast]
    exact ⟨ixR_nat e, (perm_rg hp).2 _ (List.mem_of_getElem? e)⟩
  have cm : ∀ j : Nat, j < c.length → ixR c (j : Int) = .ok (c.getD j 0) ∧ Nd n (c.getD j 0) := fun j hj => by
    have e := getD_some (d := 0) (xs := c) (i := j) hj
    exact ⟨ixR_nat e, hc _ (List.mem_of_getElem? e)⟩
  refine (tr_forRn (Q := fun s => s = (prs8 c).foldl (stp8 names) m) (fun i s => s = ((prs8 c).take i).foldl (stp8 names) m) rfl ?_ fun s hs => ?_).eq
  · rintro k s hk rfl
    obtain ⟨j, hj, ej⟩ := mod_at (n := c.length) (z := (k : Int) + 1) (by omega)
    rw [modR_pos (by omega), ej]
    dsimp only [Res.bind_ok]
    rw [(cm j hj).1, (cm k hk).1]
    dsimp only [Res.bind_ok]
    obtain ⟨n1, n2⟩ := nm _ (cm j hj).2
    obtain ⟨m1, m2⟩ := nm _ (cm k hk).2
    rw [n1, m1]
    dsimp only [Res.bind_ok]
    rw [setR_of m2.1 (by rw [foldl_len, hm]; exact m2.2)]
    refine Tr.ok ?_
    have e : (prs8 c)[k]? = some (c.getD k 0, c.getD j 0) := by
      unfold prs8 upto
      rw [List.getElem?_map, List.getElem?_map, List.getElem?_range hk]
      show some (c.getD ((k : Int)).toNat 0, c.getD (((k : Int) + 1) % (c.length : Int)).toNat 0) = _
      rw [ej, Int.toNat_natCast, Int.toNat_natCast]
    rw [List.take_succ, e]
    show _ = (List.take k (prs8 c) ++ [(c.getD k 0, c.getD j 0)]).foldl _ m
    rw [List.foldl_append]
    rfl
  · rw [hs, List.take_of_length_le]
    unfold prs8
    rw [List.length_map, upto_length]
    exact Nat.le_refl _
def pairs8 (cs : List (List Int)) : List (Int × Int) := cs.flatMap prs8
theorem cycles_ok (hn : n ≤ 1000) {names : List Int} (hp : names.Perm (upto n)) : ∀ (cs : List (List Int)) (m : List Int), (∀ c ∈ cs, (∀ x ∈ c, Nd n x) ∧ c.length ≤ 1000) → m.length = n →
    forR (σ := (List Int)) (fun x4 x5 => (((rngR (x5.length : Int)).bind fun x14 => (forR (σ := (List Int)) (fun x6 x7 => (((((modR (x7 + 1) (x5.length : Int)).bind fun x8 => (ixR x5 x8)).bind fun x9 => (ixR names x9)).bind fun x11 => (((ixR x5 x7).bind fun x10 => (ixR names x10)).bind fun x12 => (setR x6 x12 x11))).bind fun x13 =>
  Res.ok x13)) x14 x4)).bind fun x15 =>
  Res.ok x15)) cs m = .ok ((pairs8 cs).foldl (stp8 names) m)
  | [], m, _, _ => rfl
  | c :: cs, m, hc, hm => by
    rw [forR_cons]
    rw [one_cycle hn hp (hc c List.mem_cons_self).1 (hc c List.mem_cons_self).2 hm]
    dsimp only [Res.bind_ok]
    rw [cycles_ok hn hp cs _ (fun x hx => hc x (List.mem_cons_of_mem _ hx)) (by rw [foldl_len, hm])]
    unfold pairs8
    rw [List.flatMap_cons, List.foldl_append]
theorem law_cycles (hn : n ≤ 1000) {names : List Int} (hp : names.Perm (upto n)) {cs : List (List Int)} (hc : ∀ c ∈ cs, (∀ x ∈ c, Nd n x) ∧ c.length ≤ 1000) : N_law_cycles_i_ti_lli n names cs = .ok ((pairs8 cs).foldl (stp8 names) (upto n)) := by
  unfold N_law_cycles_i_ti_lli
  rw [copy_upto hn, Res.bind_ok, cycles_ok hn hp cs _ hc upto_length]
  rfl
theorem conj {names : List Int} (hp : names.Perm (upto n)) : ∀ (ps : List (Int × Int)) (m b : List Int), (∀ q ∈ ps, Nd n q.1 ∧ Nd n q.2) → m.length = n → b.length = n → (∀ i : Nat, i < n → Nd n (b.getD i 0) ∧ m.getD (names.getD i 0).toNat 0 = names.getD (b.getD i 0).toNat 0) →
    ∀ i : Nat, i < n → Nd n ((ps.foldl (stp8 (upto n)) b).getD i 0) ∧ (ps.foldl (stp8 names) m).getD (names.getD i 0).toNat 0 = names.getD ((ps.foldl (stp8 (upto n)) b).getD i 0).toNat 0
  | [], m, b, _, _, _, h => h
  | q :: ps, m, b, hq, hm, hb, h => by
    have nl : names.length = n := by rw [hp.length_eq, upto_length]
    have nd : names.Nodup := hp.nodup_iff.mpr upto_nodup
    obtain ⟨q1, q2⟩ := hq q List.mem_cons_self
    refine conj hp ps _ _ (fun x hx => hq x (List.mem_cons_of_mem _ hx)) (by rw [stp8_len, hm]) (by rw [stp8_len, hb]) fun i hi => ?_
    obtain ⟨x, hx, lx⟩ := q1.nat
    obtain ⟨y, hy, ly⟩ := q2.nat
    have up : ∀ k : Nat, k < n → (upto n).getD k 0 = (k : Int) := fun k hk => by
      rw [List.getD_eq_getElem?_getD, List.getElem?_eq_getElem (by rw [upto_length]; exact hk), upto_getE hk]
      rfl
    have rg : ∀ k : Nat, k < n → Nd n (names.getD k 0) := fun k hk => (perm_rg hp).2 _ (List.mem_of_getElem? (getD_some (d := 0) (by omega)))
    obtain ⟨h1, h2⟩ := h i hi
    unfold stp8
    rw [hx, hy]
    simp only [Int.toNat_natCast]
    rw [up x lx, up y ly, Int.toNat_natCast]
    have rx := rg x lx
    rw [getD_set (by omega), getD_set (by have := rx.1; have := rx.2; omega)]
    by_cases e : x = i
    · subst e
      rw [if_pos rfl, if_pos rfl, Int.toNat_natCast]
      exact ⟨Nd.of ly, rfl⟩
    · rw [if_neg e, if_neg]
      · exact ⟨h1, h2⟩
      · intro z
        have ri := rg i hi
        have : names.getD x 0 = names.getD i 0 := by have := rx.1; have := ri.1; omega
        have e1 : names[x]'(by omega) = names[i]'(by omega) := by
          rw [List.getD_eq_getElem?_getD, List.getD_eq_getElem?_getD, List.getElem?_eq_getElem (by omega), List.getElem?_eq_getElem (by omega)] at this
          exact this
        exact e ((List.getElem_inj nd).mp e1)
theorem self_map {l : List Int} (hl : l.length = n) : (upto n).map (fun i => l.getD i.toNat 0) = l := by
  refine List.ext_getElem (by rw [List.length_map, upto_length, hl]) fun i h1 h2 => ?_
  rw [List.getElem_map, upto_getE (by omega), Int.toNat_natCast, List.getD_eq_getElem?_getD, List.getElem?_eq_getElem h2]
  rfl
theorem conj_perm {names : List Int} (hp : names.Perm (upto n)) {ps : List (Int × Int)} (hq : ∀ q ∈ ps, Nd n q.1 ∧ Nd n q.2) (hb : (ps.foldl (stp8 (upto n)) (upto n)).Perm (upto n)) : (ps.foldl (stp8 names) (upto n)).Perm (upto n) := by
  have nl : names.length = n := by rw [hp.length_eq, upto_length]
  have up : ∀ k : Nat, k < n → (upto n).getD k 0 = (k : Int) := fun k hk => by
    rw [List.getD_eq_getElem?_getD, List.getElem?_eq_getElem (by rw [upto_length]; exact hk), upto_getE hk]
    rfl
  have key := conj hp ps (upto n) (upto n) hq upto_length upto_length fun i hi => by
    have r : Nd n (names.getD i 0) := (perm_rg hp).2 _ (List.mem_of_getElem? (getD_some (d := 0) (by omega)))
    obtain ⟨j, ej, lj⟩ := r.nat
    rw [up i hi, Int.toNat_natCast, ej, Int.toNat_natCast, up j lj]
    exact ⟨Nd.of hi, rfl⟩
  generalize hB : ps.foldl (stp8 (upto n)) (upto n) = B at hb key
  generalize hM : ps.foldl (stp8 names) (upto n) = M at key ⊢
  have lM : M.length = n := by rw [← hM, foldl_len, upto_length]
  have lB : B.length = n := by rw [← hB, foldl_len, upto_length]
  have e1 : names.map (fun x => M.getD x.toNat 0) = B.map fun x => names.getD x.toNat 0 := by
    refine List.ext_getElem (by rw [List.length_map, List.length_map]; omega) fun i h1 h2 => ?_
    rw [List.length_map] at h1
    have := (key i (by omega)).2
    rw [List.getElem_map, List.getElem_map]
    rw [List.getD_eq_getElem?_getD (l := names) (i := i), List.getElem?_eq_getElem h1, List.getD_eq_getElem?_getD (l := B), List.getElem?_eq_getElem (by omega)] at this
    exact this
  have p1 : (names.map fun x => M.getD x.toNat 0).Perm M := by
    have := hp.map fun x : Int => M.getD x.toNat 0
    rwa [self_map lM] at this
  have p2 : (B.map fun x => names.getD x.toNat 0).Perm names := by
    have := hb.map fun x : Int => names.getD x.toNat 0
    rwa [self_map nl] at this
  rw [e1] at p1
  exact (p1.symm.trans p2).trans hp
end
end Kx
namespace Kx
open PySem PySem.Spec L2 Da
def okC (p : Nat) (cs : List (List Int)) : Bool := ((pairs8 cs).all fun q => decide (0 ≤ q.1 ∧ q.1 < (p : Int)) && decide (0 ≤ q.2 ∧ q.2 < (p : Int))) && (cs.all fun c => (c.all fun x => decide (0 ≤ x ∧ x < (p : Int))) && decide (c.length ≤ 1000)) && ((pairs8 cs).foldl (stp8 (upto p)) (upto p)).isPerm (upto p)
theorem okC_perm {p : Nat} (hn : p ≤ 1000) {names : List Int} (hp : names.Perm (upto p)) {cs : List (List Int)} (h : okC p cs = true) : ∃ t, N_law_cycles_i_ti_lli p names cs = .ok t ∧ t.Perm (upto p) := by
  unfold okC at h
  simp only [Bool.and_eq_true] at h
  obtain ⟨⟨h1, h2⟩, h3⟩ := h
  refine ⟨_, law_cycles hn hp fun c hc => ?_, conj_perm hp (fun q hq => ?_) (List.isPerm_iff.mp h3)⟩
  · have := List.all_eq_true.mp h2 c hc
    simp only [Bool.and_eq_true, decide_eq_true_eq] at this
    refine ⟨fun x hx => ?_, this.2⟩
    have q := List.all_eq_true.mp this.1 x hx
    rw [decide_eq_true_iff] at q
    exact q
  · have := List.all_eq_true.mp h1 q hq
    simp only [Bool.and_eq_true, decide_eq_true_eq] at this
    exact this
theorem built_tail {p : Nat} (p0 : 0 < p) (p8 : p ≤ 8) {r : List Int} (hl : r.length = 10) (hr : ∀ x ∈ r, 0 ≤ x) {one two : List (List Int)} (h1 : okC p one = true) (h2 : okC p two = true) :
    Tr ((N_law_day_i_li p (cutN r (some 2) none)).bind fun x55 =>
  (((N_law_cycles_i_ti_lli p x55 one).bind fun x56 => ((N_law_cycles_i_ti_lli p x55 two).bind fun x57 => (Res.ok [x56, x57]))).bind fun x58 => (Res.ok ((p : Int), x58)))) fun w => ∃ n : Nat, w.1 = n ∧ 0 < n ∧ n ≤ 8 ∧ w.2.length = 2 ∧ ∀ t ∈ w.2, t.Perm (upto n) := by
  rw [show cutN r (some 2) none = r.drop 2 from cutd 2]
  obtain ⟨names, e, hp⟩ := law_day (n := p) (r := r.drop 2) (by omega) (by rw [List.length_drop]; omega) fun x hx => hr x (List.mem_of_mem_drop hx)
  obtain ⟨s, es, hs⟩ := okC_perm (by omega) hp h1
  obtain ⟨t, et, ht⟩ := okC_perm (by omega) hp h2
  rw [e, Res.bind_ok, es, Res.bind_ok, et]
  refine Tr.ok ⟨p, rfl, p0, p8, rfl, fun x hx => ?_⟩
  rcases List.mem_cons.mp hx with z | z
  · rw [z]; exact hs
  · rw [List.mem_singleton.mp z]; exact ht
theorem law_built {r : List Int} (hl : r.length = 10) (hr : ∀ x ∈ r, 0 ≤ x) (h8 : r.getD 0 0 < 8) : Tr (N_law_built_li r) fun w => ∃ n : Nat, w.1 = n ∧ 0 < n ∧ n ≤ 8 ∧ w.2.length = 2 ∧ ∀ t ∈ w.2, t.Perm (upto n) := by
  have at_ : ∀ k : Nat, k < 10 → ixR r (k : Int) = .ok (r.getD k 0) ∧ 0 ≤ r.getD k 0 := fun k hk => by
    have e := getD_some (d := 0) (xs := r) (i := k) (by omega)
    exact ⟨ixR_nat e, hr _ (List.mem_of_getElem? e)⟩
  obtain ⟨a0, b0⟩ := at_ 0 (by omega)
  obtain ⟨a1, b1⟩ := at_ 1 (by omega)
  unfold N_law_built_li
  rw [show ixR r 0 = .ok (r.getD 0 0) from a0, show ixR r 1 = .ok (r.getD 1 0) from a1]
  dsimp only [Res.bind_ok]
  generalize r.getD 0 0 = k at *
  generalize r.getD 1 0 = z at *
  have go : ∀ (base : Int) (one two : List (List Int)), (base = 4 ∨ base = 5 ∨ base = 6 ∨ base = 7 ∨ base = 8) → (∀ p : Nat, base ≤ p → p ≤ 8 → okC p one = true ∧ okC p two = true) → Tr (((modR z (9 - base)).bind fun x4 => (Res.ok (base + x4))).bind fun x5 => (N_law_day_i_li x5 (cutN r (some 2) none)).bind fun x55 =>
  (((N_law_cycles_i_ti_lli x5 x55 one).bind fun x56 => ((N_law_cycles_i_ti_lli x5 x55 two).bind fun x57 => (Res.ok [x56, x57]))).bind fun x58 => (Res.ok (x5, x58)))) fun w => ∃ n : Nat, w.1 = n ∧ 0 < n ∧ n ≤ 8 ∧ w.2.length = 2 ∧ ∀ t ∈ w.2, t.Perm (upto n) := by
    intro base one two hb hok
    rw [modR_pos (by omega)]
    dsimp only [Res.bind_ok]
    obtain ⟨p, ep, p1, p2⟩ : ∃ p : Nat, base + z % (9 - base) = (p : Int) ∧ base ≤ p ∧ p ≤ 8 := by
      have h1 := Int.emod_nonneg z (show (9 - base : Int) ≠ 0 by omega)
      have h2 := Int.emod_lt_of_pos z (show (0 : Int) < 9 - base by omega)
      exact ⟨(base + z % (9 - base)).toNat, by omega, by omega, by omega⟩
    rw [ep]
    obtain ⟨o1, o2⟩ := hok p p1 p2
    exact built_tail (by omega) p2 hl hr o1 o2
  have fin : ∀ (base : Nat) (one two : List (List Int)), 4 ≤ base → ((List.range' base (9 - base)).all fun p => okC p one && okC p two) = true → ∀ p : Nat, (base : Int) ≤ p → p ≤ 8 → okC p one = true ∧ okC p two = true := fun base one two hb h p h1 h2 => by
    have := List.all_eq_true.mp h p (List.mem_range'_1.mpr ⟨by omega, by omega⟩)
    simpa using this
  rcases (show k = 0 ∨ k = 1 ∨ k = 2 ∨ k = 3 ∨ k = 4 ∨ k = 5 ∨ k = 6 ∨ k = 7 by omega) with rfl | rfl | rfl | rfl | rfl | rfl | rfl | rfl
  · exact go 4 [[0, 1, 2, 3]] [[0, 1]] (by omega) (fin 4 _ _ (by omega) (by decide +kernel))
  · exact go 8 [[0, 1, 2], [3, 4, 5, 6, 7]] [[0, 1]] (by omega) (fin 8 _ _ (by omega) (by decide +kernel))
  · exact go 7 [[0, 1, 2], [3, 4, 5, 6]] [[0, 1]] (by omega) (fin 7 _ _ (by omega) (by decide +kernel))
  · exact go 8 [[0, 1, 2]] [[3, 4, 5, 6, 7]] (by omega) (fin 8 _ _ (by omega) (by decide +kernel))
  · exact go 5 [[0, 1, 2, 3, 4]] [[1, 2, 4, 3]] (by omega) (fin 5 _ _ (by omega) (by decide +kernel))
  · exact go 6 [[0, 1, 2, 3]] [[0, 2], [4, 5]] (by omega) (fin 6 _ _ (by omega) (by decide +kernel))
  · exact go 7 [[0, 1, 2, 3]] [[4, 5, 6]] (by omega) (fin 7 _ _ (by omega) (by decide +kernel))
  · exact go 6 [[0, 1, 2], [4, 5]] [[1, 2, 3], [4, 5]] (by omega) (fin 6 _ _ (by omega) (by decide +kernel))
theorem digs_nn {sizes r : List Int} (h : Digs sizes r) (hs : ∀ s ∈ sizes, 0 < s) : ∀ x ∈ r, 0 ≤ x := fun x hx => by
  obtain ⟨i, hi⟩ := List.mem_iff_getElem?.mp hx
  have hl := (List.getElem?_eq_some_iff.mp hi).1
  have e := List.getElem?_eq_getElem (show i < sizes.length by rw [← h.1]; exact hl)
  have := (digs_at h e).1
  rw [List.getD_eq_getElem?_getD, hi] at this
  exact this
/-- one of the wrong rows -/
theorem bad_row {p : Nat} (p0 : 0 < p) (p8 : p ≤ 8) {m : Int} (m0 : 0 ≤ m) (m4 : m < 4) :
    Tr (((repR [0] ((p : Int) + 1)).bind fun x39 => ((((rng2R 1 p).bind fun x34 => lcR x34 (fun x33 => Res.ok true) (fun x33 => (Res.ok x33))).bind fun x35 => (catR [(p : Int)] x35)).bind fun x40 => ((((rng2R 1 p).bind fun x37 => lcR x37 (fun x36 => Res.ok true) (fun x36 => (Res.ok x36))).bind fun x38 => (catR [(-1)] x38)).bind fun x41 => (Res.ok [x39, x40, [], x41])))).bind fun x43 => ixR x43 m) fun b => b.length ≤ 100 ∧ (b.length ≠ p ∨ ∃ x ∈ b, ¬ Nd p x) := by
  have r2 : rng2R 1 (p : Int) = .ok (rngI 1 ((p : Int) - 1).toNat) := rng2R_ok (by omega) (by omega) (by omega) (by omega)
  have cp : lcR (rngI 1 ((p : Int) - 1).toNat) (fun x => Res.ok true) (fun x => Res.ok x) = .ok (rngI 1 ((p : Int) - 1).toNat) := (lcR_map (g := fun x => x) (by unfold rngI; rw [List.length_map, List.length_range]; omega) fun x _ => rfl).trans (by rw [List.map_id'])
  have ll : (rngI 1 ((p : Int) - 1).toNat).length = p - 1 := by unfold rngI; rw [List.length_map, List.length_range]; omega
  rw [repR_ok (by omega) (by simp; omega), r2]
  dsimp only [Res.bind_ok]
  rw [cp]
  dsimp only [Res.bind_ok]
  rw [catR_ok (by simp; omega), catR_ok (by simp; omega)]
  dsimp only [Res.bind_ok]
  obtain ⟨x, ex, mx⟩ := ixR_mem (xs := [(List.replicate ((p : Int) + 1).toNat [(0 : Int)]).flatten, [(p : Int)] ++ rngI 1 ((p : Int) - 1).toNat, [], [-1] ++ rngI 1 ((p : Int) - 1).toNat]) m0 m4
  refine Tr.of ex ?_
  have lr : (List.replicate ((p : Int) + 1).toNat [(0 : Int)]).flatten.length = p + 1 := by simp
  simp only [List.mem_cons, List.not_mem_nil, or_false] at mx
  rcases mx with rfl | rfl | rfl | rfl
  · exact ⟨by omega, .inl (by omega)⟩
  · refine ⟨by rw [List.length_append, ll]; simp; omega, .inr ⟨(p : Int), by simp, fun z => ?_⟩⟩
    have := z.2
    omega
  · exact ⟨by simp, .inl (by simp; omega)⟩
  · refine ⟨by rw [List.length_append, ll]; simp; omega, .inr ⟨-1, by simp, fun z => ?_⟩⟩
    have := z.1
    omega
theorem law_ok (ns : List Int) : Tr (N_law_fi ns) fun b => b = true := by
  have so3 : PyData.strOk (Str.ofString "step") = true := by decide +kernel
  unfold N_law_fi
  obtain ⟨c0, e0⟩ := law_cell ns 0 (by omega) (by omega)
  obtain ⟨row, d0, h0⟩ := law_digits c0 [8, 5, 5, 4, 9] (by decide) (by decide)
  have l0 : row.length = 5 := h0.1
  have b0 := digs_at h0 (i := 0) (s := 8) rfl
  have b1 := digs_at h0 (i := 1) (s := 5) rfl
  have b2 := digs_at h0 (i := 2) (s := 5) rfl
  have b4 := digs_at h0 (i := 4) (s := 9) rfl
  have at_ : ∀ k : Nat, k < 5 → ixR row (k : Int) = .ok (row.getD k 0) := fun k hk => ixR_nat (getD_some (by omega))
  have a0 : ixR row 0 = .ok (row.getD 0 0) := at_ 0 (by omega)
  have a1 : ixR row 1 = .ok (row.getD 1 0) := at_ 1 (by omega)
  have a2 : ixR row 2 = .ok (row.getD 2 0) := at_ 2 (by omega)
  have a3 : ixR row 3 = .ok (row.getD 3 0) := at_ 3 (by omega)
  have a4 : ixR row 4 = .ok (row.getD 4 0) := at_ 4 (by omega)
  refine bind_eq (v := row) (by rw [e0]; exact d0) ?_
  refine bind_eq (v := 1 + row.getD 0 0) (by rw [a0]; rfl) ?_
  refine Tr.bind (Q := fun x => ∃ p : Nat, x = (p : Int) ∧ 0 < p ∧ p ≤ 8) ?_ ?_
  · rw [a3, a0]
    dsimp only [Res.bind_ok]
    split
    · exact Tr.ok ⟨(1 + row.getD 0 0 % 5).toNat, by omega, by omega, by omega⟩
    · exact Tr.ok ⟨(1 + row.getD 0 0).toNat, by omega, by omega, by omega⟩
  rintro _ ⟨p, rfl, p0, p8⟩
  refine Tr.bind (Q := fun S : List (List Int) => S.length ≤ 5 ∧ ∀ t ∈ S, t.Perm (upto p)) ?_ ?_
  · rw [a1]
    obtain ⟨q, eq, hq⟩ : ∃ q : Nat, row.getD 1 0 = (q : Int) ∧ q < 5 := ⟨(row.getD 1 0).toNat, by omega, by omega⟩
    rw [eq]
    dsimp only [Res.bind_ok]
    rw [rngR_nat (by omega)]
    dsimp only [Res.bind_ok]
    refine tr_forRn (fun i S => S.length = i ∧ ∀ t ∈ S, t.Perm (upto p)) ⟨rfl, fun t h => nomatch h⟩ ?_ fun S hS => ⟨by omega, hS.2⟩
    rintro k S hk ⟨h1, h2⟩
    obtain ⟨c, ec⟩ := law_cell ns (1 + (k : Int)) (by omega) (by omega)
    obtain ⟨r, dr, hr⟩ := law_digits c ([6, 8, 8, 8] ++ (List.replicate (8 : Int).toNat [24]).flatten) (by decide) (by decide)
    refine Tr.bind (Q := fun S' => S'.length = k + 1 ∧ ∀ t ∈ S', t.Perm (upto p)) ?_ fun s hs => Tr.ok hs
    refine Tr.bind (Q := fun t : List Int => t.Perm (upto p)) ?_ fun t ht => ?_
    · refine bind_eq (v := r) ?_ (law_step p0 p8 hr.1 (digs_nn hr (by decide)))
      rw [ec, repR_ok (by decide) (by decide)]
      dsimp only [Res.bind_ok]
      rw [catR_ok (by decide)]
      exact dr
    · refine Tr.of (appR_ok (by omega)) ⟨by rw [List.length_append, h1]; rfl, fun x hx => ?_⟩
      rcases List.mem_append.mp hx with z | z
      · exact h2 x z
      · rw [List.mem_singleton.mp z]; exact ht
  rintro S ⟨hS, hp⟩
  have lenp : ∀ t ∈ S, t.length = p := fun t ht => by rw [(hp t ht).length_eq, upto_length]
  refine bind_eq (v := false) (by rw [told (by omega) p0 ⟨by omega, fun t ht => by rw [lenp t ht]; omega⟩ hp]; rfl) ?_
  rw [if_neg (by decide)]
  refine Tr.bind (Q := fun b : List Int => b.length ≤ 100 ∧ (b.length ≠ p ∨ ∃ x ∈ b, ¬ Nd p x)) ?_ ?_
  · rw [a4]
    dsimp only [Res.bind_ok]
    exact bad_row p0 p8 (by omega) (by omega)
  rintro bad ⟨hb1, hb2⟩
  obtain ⟨a, ea, ha⟩ : ∃ a : Nat, (if (S.length : Int) < row.getD 2 0 then (S.length : Int) else row.getD 2 0) = (a : Int) ∧ a ≤ S.length := by
    split
    · exact ⟨S.length, rfl, Nat.le_refl _⟩
    · exact ⟨(row.getD 2 0).toNat, by omega, by omega⟩
  refine bind_eq (v := (a : Int)) (by rw [a2, Res.bind_ok, ea]) ?_
  have cpy : ∀ L : List (List Int), L.length ≤ 1000 → lcR L (fun x => Res.ok true) (fun x => Res.ok x) = .ok L := fun L h => (lcR_map (g := fun x => x) (by omega) fun x _ => rfl).trans (by rw [List.map_id'])
  refine bind_eq (v := S.take a ++ [bad] ++ S.drop a ++ [[]]) ?_ ?_
  · rw [cutt a, cutd a, cpy _ (by rw [List.length_take]; omega), cpy _ (by rw [List.length_drop]; omega)]
    dsimp only [Res.bind_ok]
    rw [catR_ok (by simp; omega)]
    dsimp only [Res.bind_ok]
    rw [catR_ok (by simp; omega)]
    dsimp only [Res.bind_ok]
    rw [catR_ok (by simp; omega)]
  have lt : (S.take a).length = a := by rw [List.length_take]; omega
  generalize hW : S.take a ++ [bad] ++ S.drop a ++ [[]] = W
  have hWs : Sm W := by
    subst hW
    refine ⟨by simp; omega, fun t ht => ?_⟩
    simp only [List.mem_append, List.mem_singleton] at ht
    rcases ht with ((z | z) | z) | z
    · rw [lenp t (List.mem_of_mem_take z)]; omega
    · rw [z]; omega
    · rw [lenp t (List.mem_of_mem_drop z)]; omega
    · rw [z]; simp
  have Wa : W.getD a [] = bad := by
    subst hW
    rw [List.append_assoc, List.append_assoc, List.getD_eq_getElem?_getD, List.getElem?_append_right (by omega), lt, Nat.sub_self]
    rfl
  have Wi : ∀ i, i < a → (W.getD i []).Perm (upto p) := fun i hi => by
    subst hW
    rw [List.append_assoc, List.append_assoc, List.getD_eq_getElem?_getD, List.getElem?_append_left (by omega), List.getElem?_take, if_pos hi, getD_some (d := []) (by omega)]
    exact hp _ (List.mem_of_getElem? (getD_some (d := []) (i := i) (by omega)))
  have Wl : a < W.length := by subst hW; simp; omega
  have ge : N_group_i_lli p W = .ex "BadStep" [("index", D.int (a : Int))] := by
    unfold N_group_i_lli N_checked_steps_i_lli
    rw [frozen_l8 hWs, Res.bind_ok, bad_loop (by omega) Wl Wi (by rw [Wa]; exact isp_false (by omega) (by omega) hb2)]
    rfl
  rw [show rngR 3 = .ok (upto 3) from rngR_nat (n := 3) (by omega), Res.bind_ok]
  refine tr_all (fun door hd => ?_) ?_
  · rw [asked_exl (f := "") ge (.inl ⟨rfl, rfl, rfl⟩), Res.bind_ok, dne0 (eq_si _ so3)]
    exact Tr.ok rfl
  rw [show rngR 2 = .ok (upto 2) from rngR_nat (n := 2) (by omega), Res.bind_ok]
  refine tr_all (fun turn ht => ?_) (Tr.ok rfl)
  obtain ⟨k, rfl, hk⟩ := Nd.nat (mem_upto.mp ht)
  obtain ⟨c, ec⟩ := law_cell ns (5 + (k : Int)) (by omega) (by omega)
  obtain ⟨r, dr, hr⟩ := law_digits c ([8, 8] ++ (List.replicate (8 : Int).toNat [24]).flatten) (by decide) (by decide)
  refine Tr.bind (bind_eq (v := r) ?_ (law_built hr.1 (digs_nn hr (by decide)) (digs_at hr (i := 0) (s := 8) rfl).2)) ?_
  · rw [ec, repR_ok (by decide) (by decide)]
    dsimp only [Res.bind_ok]
    rw [catR_ok (by decide)]
    exact dr
  rintro ⟨_, T⟩ ⟨q, rfl, q0, q8, hl, hT⟩
  dsimp only at hl hT ⊢
  refine bind_eq (v := false) (by rw [told (by omega) q0 ⟨by omega, fun t ht => by rw [(hT t ht).length_eq, upto_length]; omega⟩ hT]; rfl) ?_
  rw [if_neg (by decide)]
  exact Tr.ok rfl
theorem law_true (ns : List Int) (_ : ns.length ≤ 63) (_ : ∀ z ∈ ns, Builtin.Int.intBits z ≤ 1048576) : m_law [.frl (ns.map D.int)] = .ok (.bl true) := rf_use (n_law_fi ns) (law_ok ns).eq
end Kx
namespace Kx
open PySem PySem.Spec L2 Da
theorem all_mk {P : Program} {w : World} {K : PySem.W.Frag} {h : Heap} {mg : Str → Option Value} {fa : Addr} (X : K.In h) (G : h.Ns mainGlobals mg) (hfa : mg "law" = some (.ref fa))
    {C0 : Addr}
    (xc0 : PySem.W.nsIn K mainGlobals "Net" = some (some (.ref C0))) (xp0 : PySem.W.plainGet K C0 Str.empty = true) (xh0 : PySem.W.hasDictIn K C0 = true) (xo0 : PySem.W.plainOver K C0 = true) (xs0 : PySem.W.findIn K (.ref C0) "__setattr__" = some (some (.builtin "object.__setattr__")))
    (xf_Net_lane_row : PySem.W.findIn K (.ref C0) "lane_row" = some none)
    (xf_Net_links : PySem.W.findIn K (.ref C0) "links" = some none)
    (xf_Net_near : PySem.W.findIn K (.ref C0) "near" = some none)
    (xf_Net_size : PySem.W.findIn K (.ref C0) "size" = some none)
    {f0 f1 f2 f3 f4 f5 f6 f7 f8 f9 f10 f11 f12 f13 f14 f15 f16 f17 f18 f19 f20 f21 f22 f23 f24 f25 f26 f27 : Addr} {od0 an0 od1 an1 od2 an2 od3 an3 od4 an4 od5 an5 od6 an6 od7 an7 od8 an8 od9 an9 od10 an10 od11 an11 od12 an12 od13 an13 od14 an14 od15 an15 od16 an16 od17 an17 od18 an18 od19 an19 od20 an20 od21 an21 od22 an22 od23 an23 od24 an24 od25 an25 od26 an26 od27 an27 : Option Addr} {sl0 sl1 sl2 sl3 sl4 sl5 sl6 sl7 sl8 sl9 sl10 sl11 sl12 sl13 sl14 sl15 sl16 sl17 sl18 sl19 sl20 sl21 sl22 sl23 sl24 sl25 sl26 sl27 : Array (Option Value)} {oc0 kv0 dc0 pm0 cd0 ct0 oc1 kv1 dc1 pm1 cd1 ct1 oc2 kv2 dc2 pm2 cd2 ct2 oc3 kv3 dc3 pm3 cd3 ct3 oc4 kv4 dc4 pm4 cd4 ct4 oc5 kv5 dc5 pm5 cd5 ct5 oc6 kv6 dc6 pm6 cd6 ct6 oc7 kv7 dc7 pm7 cd7 ct7 oc8 kv8 dc8 pm8 cd8 ct8 oc9 kv9 dc9 pm9 cd9 ct9 oc10 kv10 dc10 pm10 cd10 ct10 oc11 kv11 dc11 pm11 cd11 ct11 oc12 kv12 dc12 pm12 cd12 ct12 oc13 kv13 dc13 pm13 cd13 ct13 oc14 kv14 dc14 pm14 cd14 ct14 oc15 kv15 dc15 pm15 cd15 ct15 oc16 kv16 dc16 pm16 cd16 ct16 oc17 kv17 dc17 pm17 cd17 ct17 oc18 kv18 dc18 pm18 cd18 ct18 oc19 kv19 dc19 pm19 cd19 ct19 oc20 kv20 dc20 pm20 cd20 ct20 oc21 kv21 dc21 pm21 cd21 ct21 oc22 kv22 dc22 pm22 cd22 ct22 oc23 kv23 dc23 pm23 cd23 ct23 oc24 kv24 dc24 pm24 cd24 ct24 oc25 kv25 dc25 pm25 cd25 ct25 oc26 kv26 dc26 pm26 cd26 ct26 oc27 kv27 dc27 pm27 cd27 ct27 : Value}
    (a0 : PySem.W.nsIn K mainGlobals "_law_digits" = some (some (.ref f0))) (l0 : K.lookup f0 = some ⟨oc0, od0, .func (PySem.W.fnOf "_law_digits" "_law_digits" (defArgs s_law_digits) (defBody s_law_digits) (defScope s_law_digits) .none kv0 dc0 pm0 an0 cd0 ct0), sl0⟩) (c0 : PySem.W.codeIn K cd0 "_law_digits" = true) (k0 : PySem.W.keepIn K (.ref f0) = true)
    (a1 : PySem.W.nsIn K mainGlobals "_law_cell" = some (some (.ref f1))) (l1 : K.lookup f1 = some ⟨oc1, od1, .func (PySem.W.fnOf "_law_cell" "_law_cell" (defArgs s_law_cell) (defBody s_law_cell) (defScope s_law_cell) .none kv1 dc1 pm1 an1 cd1 ct1), sl1⟩) (c1 : PySem.W.codeIn K cd1 "_law_cell" = true) (k1 : PySem.W.keepIn K (.ref f1) = true)
    (a2 : PySem.W.nsIn K mainGlobals "_law_closure" = some (some (.ref f2))) (l2 : K.lookup f2 = some ⟨oc2, od2, .func (PySem.W.fnOf "_law_closure" "_law_closure" (defArgs s_law_closure) (defBody s_law_closure) (defScope s_law_closure) .none kv2 dc2 pm2 an2 cd2 ct2), sl2⟩) (c2 : PySem.W.codeIn K cd2 "_law_closure" = true) (k2 : PySem.W.keepIn K (.ref f2) = true)
    (a3 : PySem.W.nsIn K mainGlobals "frozen" = some (some (.ref f3))) (l3 : K.lookup f3 = some ⟨oc3, od3, .func (PySem.W.fnOf "frozen" "frozen" (defArgs s_frozen) (defBody s_frozen) (defScope s_frozen) .none kv3 dc3 pm3 an3 cd3 ct3), sl3⟩) (c3 : PySem.W.codeIn K cd3 "frozen" = true) (k3 : PySem.W.keepIn K (.ref f3) = true)
    (a4 : PySem.W.nsIn K mainGlobals "is_number" = some (some (.ref f4))) (l4 : K.lookup f4 = some ⟨oc4, od4, .func (PySem.W.fnOf "is_number" "is_number" (defArgs s_is_number) (defBody s_is_number) (defScope s_is_number) .none kv4 dc4 pm4 an4 cd4 ct4), sl4⟩) (c4 : PySem.W.codeIn K cd4 "is_number" = true) (k4 : PySem.W.keepIn K (.ref f4) = true)
    (a5 : PySem.W.nsIn K mainGlobals "is_perm" = some (some (.ref f5))) (l5 : K.lookup f5 = some ⟨oc5, od5, .func (PySem.W.fnOf "is_perm" "is_perm" (defArgs s_is_perm) (defBody s_is_perm) (defScope s_is_perm) .none kv5 dc5 pm5 an5 cd5 ct5), sl5⟩) (c5 : PySem.W.codeIn K cd5 "is_perm" = true) (k5 : PySem.W.keepIn K (.ref f5) = true)
    (a6 : PySem.W.nsIn K mainGlobals "checked_steps" = some (some (.ref f6))) (l6 : K.lookup f6 = some ⟨oc6, od6, .func (PySem.W.fnOf "checked_steps" "checked_steps" (defArgs s_checked_steps) (defBody s_checked_steps) (defScope s_checked_steps) .none kv6 dc6 pm6 an6 cd6 ct6), sl6⟩) (c6 : PySem.W.codeIn K cd6 "checked_steps" = true) (k6 : PySem.W.keepIn K (.ref f6) = true)
    (a7 : PySem.W.nsIn K mainGlobals "identity" = some (some (.ref f7))) (l7 : K.lookup f7 = some ⟨oc7, od7, .func (PySem.W.fnOf "identity" "identity" (defArgs s_identity) (defBody s_identity) (defScope s_identity) .none kv7 dc7 pm7 an7 cd7 ct7), sl7⟩) (c7 : PySem.W.codeIn K cd7 "identity" = true) (k7 : PySem.W.keepIn K (.ref f7) = true)
    (a8 : PySem.W.nsIn K mainGlobals "composed" = some (some (.ref f8))) (l8 : K.lookup f8 = some ⟨oc8, od8, .func (PySem.W.fnOf "composed" "composed" (defArgs s_composed) (defBody s_composed) (defScope s_composed) .none kv8 dc8 pm8 an8 cd8 ct8), sl8⟩) (c8 : PySem.W.codeIn K cd8 "composed" = true) (k8 : PySem.W.keepIn K (.ref f8) = true)
    (a9 : PySem.W.nsIn K mainGlobals "group" = some (some (.ref f9))) (l9 : K.lookup f9 = some ⟨oc9, od9, .func (PySem.W.fnOf "group" "group" (defArgs s_group) (defBody s_group) (defScope s_group) .none kv9 dc9 pm9 an9 cd9 ct9), sl9⟩) (c9 : PySem.W.codeIn K cd9 "group" = true) (k9 : PySem.W.keepIn K (.ref f9) = true)
    (a10 : PySem.W.nsIn K mainGlobals "node_numbers" = some (some (.ref f10))) (l10 : K.lookup f10 = some ⟨oc10, od10, .func (PySem.W.fnOf "node_numbers" "node_numbers" (defArgs s_node_numbers) (defBody s_node_numbers) (defScope s_node_numbers) .none kv10 dc10 pm10 an10 cd10 ct10), sl10⟩) (c10 : PySem.W.codeIn K cd10 "node_numbers" = true) (k10 : PySem.W.keepIn K (.ref f10) = true)
    (a11 : PySem.W.nsIn K mainGlobals "is_link" = some (some (.ref f11))) (l11 : K.lookup f11 = some ⟨oc11, od11, .func (PySem.W.fnOf "is_link" "is_link" (defArgs s_is_link) (defBody s_is_link) (defScope s_is_link) .none kv11 dc11 pm11 an11 cd11 ct11), sl11⟩) (c11 : PySem.W.codeIn K cd11 "is_link" = true) (k11 : PySem.W.keepIn K (.ref f11) = true)
    (a12 : PySem.W.nsIn K mainGlobals "checked_links" = some (some (.ref f12))) (l12 : K.lookup f12 = some ⟨oc12, od12, .func (PySem.W.fnOf "checked_links" "checked_links" (defArgs s_checked_links) (defBody s_checked_links) (defScope s_checked_links) .none kv12 dc12 pm12 an12 cd12 ct12), sl12⟩) (c12 : PySem.W.codeIn K cd12 "checked_links" = true) (k12 : PySem.W.keepIn K (.ref f12) = true)
    (a13 : PySem.W.nsIn K mainGlobals "near_nodes" = some (some (.ref f13))) (l13 : K.lookup f13 = some ⟨oc13, od13, .func (PySem.W.fnOf "near_nodes" "near_nodes" (defArgs s_near_nodes) (defBody s_near_nodes) (defScope s_near_nodes) .none kv13 dc13 pm13 an13 cd13 ct13), sl13⟩) (c13 : PySem.W.codeIn K cd13 "near_nodes" = true) (k13 : PySem.W.keepIn K (.ref f13) = true)
    (a14 : PySem.W.nsIn K mainGlobals "lanes_of" = some (some (.ref f14))) (l14 : K.lookup f14 = some ⟨oc14, od14, .func (PySem.W.fnOf "lanes_of" "lanes_of" (defArgs s_lanes_of) (defBody s_lanes_of) (defScope s_lanes_of) .none kv14 dc14 pm14 an14 cd14 ct14), sl14⟩) (c14 : PySem.W.codeIn K cd14 "lanes_of" = true) (k14 : PySem.W.keepIn K (.ref f14) = true)
    (a15 : PySem.W.nsIn K mainGlobals "reached" = some (some (.ref f15))) (l15 : K.lookup f15 = some ⟨oc15, od15, .func (PySem.W.fnOf "reached" "reached" (defArgs s_reached) (defBody s_reached) (defScope s_reached) .none kv15 dc15 pm15 an15 cd15 ct15), sl15⟩) (c15 : PySem.W.codeIn K cd15 "reached" = true) (k15 : PySem.W.keepIn K (.ref f15) = true)
    (a16 : PySem.W.findIn K (.ref C0) "__init__" = some (some (.ref f16))) (ya16 : PySem.W.makesIn K C0 = true) (yb16 : PySem.W.isFn K (.ref f16) = true) (yc16 : PySem.W.keepIn K (.ref C0) = true)
    (l16 : K.lookup f16 = some ⟨oc16, od16, .func (PySem.W.fnOf "__init__" "Net.__init__" (defArgs s_Net_init) (defBody s_Net_init) (defScope s_Net_init) .none kv16 dc16 pm16 an16 cd16 ct16), sl16⟩) (c16 : PySem.W.codeIn K cd16 "Net.__init__" = true) (k16 : PySem.W.keepIn K (.ref f16) = true)
    (a17 : PySem.W.nsIn K mainGlobals "step_net" = some (some (.ref f17))) (l17 : K.lookup f17 = some ⟨oc17, od17, .func (PySem.W.fnOf "step_net" "step_net" (defArgs s_step_net) (defBody s_step_net) (defScope s_step_net) .none kv17 dc17 pm17 an17 cd17 ct17), sl17⟩) (c17 : PySem.W.codeIn K cd17 "step_net" = true) (k17 : PySem.W.keepIn K (.ref f17) = true)
    (a18 : PySem.W.nsIn K mainGlobals "step_turns" = some (some (.ref f18))) (l18 : K.lookup f18 = some ⟨oc18, od18, .func (PySem.W.fnOf "step_turns" "step_turns" (defArgs s_step_turns) (defBody s_step_turns) (defScope s_step_turns) .none kv18 dc18 pm18 an18 cd18 ct18), sl18⟩) (c18 : PySem.W.codeIn K cd18 "step_turns" = true) (k18 : PySem.W.keepIn K (.ref f18) = true)
    (a19 : PySem.W.nsIn K mainGlobals "_law_asked" = some (some (.ref f19))) (l19 : K.lookup f19 = some ⟨oc19, od19, .func (PySem.W.fnOf "_law_asked" "_law_asked" (defArgs s_law_asked) (defBody s_law_asked) (defScope s_law_asked) .none kv19 dc19 pm19 an19 cd19 ct19), sl19⟩) (c19 : PySem.W.codeIn K cd19 "_law_asked" = true) (k19 : PySem.W.keepIn K (.ref f19) = true)
    (a20 : PySem.W.nsIn K mainGlobals "_law_whole" = some (some (.ref f20))) (l20 : K.lookup f20 = some ⟨oc20, od20, .func (PySem.W.fnOf "_law_whole" "_law_whole" (defArgs s_law_whole) (defBody s_law_whole) (defScope s_law_whole) .none kv20 dc20 pm20 an20 cd20 ct20), sl20⟩) (c20 : PySem.W.codeIn K cd20 "_law_whole" = true) (k20 : PySem.W.keepIn K (.ref f20) = true)
    (a21 : PySem.W.nsIn K mainGlobals "_law_same" = some (some (.ref f21))) (l21 : K.lookup f21 = some ⟨oc21, od21, .func (PySem.W.fnOf "_law_same" "_law_same" (defArgs s_law_same) (defBody s_law_same) (defScope s_law_same) .none kv21 dc21 pm21 an21 cd21 ct21), sl21⟩) (c21 : PySem.W.codeIn K cd21 "_law_same" = true) (k21 : PySem.W.keepIn K (.ref f21) = true)
    (a22 : PySem.W.nsIn K mainGlobals "_law_told" = some (some (.ref f22))) (l22 : K.lookup f22 = some ⟨oc22, od22, .func (PySem.W.fnOf "_law_told" "_law_told" (defArgs s_law_told) (defBody s_law_told) (defScope s_law_told) .none kv22 dc22 pm22 an22 cd22 ct22), sl22⟩) (c22 : PySem.W.codeIn K cd22 "_law_told" = true) (k22 : PySem.W.keepIn K (.ref f22) = true)
    (a23 : PySem.W.nsIn K mainGlobals "_law_day" = some (some (.ref f23))) (l23 : K.lookup f23 = some ⟨oc23, od23, .func (PySem.W.fnOf "_law_day" "_law_day" (defArgs s_law_day) (defBody s_law_day) (defScope s_law_day) .none kv23 dc23 pm23 an23 cd23 ct23), sl23⟩) (c23 : PySem.W.codeIn K cd23 "_law_day" = true) (k23 : PySem.W.keepIn K (.ref f23) = true)
    (a24 : PySem.W.nsIn K mainGlobals "_law_cycles" = some (some (.ref f24))) (l24 : K.lookup f24 = some ⟨oc24, od24, .func (PySem.W.fnOf "_law_cycles" "_law_cycles" (defArgs s_law_cycles) (defBody s_law_cycles) (defScope s_law_cycles) .none kv24 dc24 pm24 an24 cd24 ct24), sl24⟩) (c24 : PySem.W.codeIn K cd24 "_law_cycles" = true) (k24 : PySem.W.keepIn K (.ref f24) = true)
    (a25 : PySem.W.nsIn K mainGlobals "_law_built" = some (some (.ref f25))) (l25 : K.lookup f25 = some ⟨oc25, od25, .func (PySem.W.fnOf "_law_built" "_law_built" (defArgs s_law_built) (defBody s_law_built) (defScope s_law_built) .none kv25 dc25 pm25 an25 cd25 ct25), sl25⟩) (c25 : PySem.W.codeIn K cd25 "_law_built" = true) (k25 : PySem.W.keepIn K (.ref f25) = true)
    (a26 : PySem.W.nsIn K mainGlobals "_law_step" = some (some (.ref f26))) (l26 : K.lookup f26 = some ⟨oc26, od26, .func (PySem.W.fnOf "_law_step" "_law_step" (defArgs s_law_step) (defBody s_law_step) (defScope s_law_step) .none kv26 dc26 pm26 an26 cd26 ct26), sl26⟩) (c26 : PySem.W.codeIn K cd26 "_law_step" = true) (k26 : PySem.W.keepIn K (.ref f26) = true)
    (a27 : PySem.W.nsIn K mainGlobals "law" = some (some (.ref f27))) (l27 : K.lookup f27 = some ⟨oc27, od27, .func (PySem.W.fnOf "law" "law" (defArgs s_law) (defBody s_law) (defScope s_law) .none kv27 dc27 pm27 an27 cd27 ct27), sl27⟩) (c27 : PySem.W.codeIn K cd27 "law" = true) (k27 : PySem.W.keepIn K (.ref f27) = true)
    {E0 E1 E2 E3 E4 E5 : Addr} {Ef0 Ex0 Ef1 Ex1 Ef2 Ex2 Ef3 Ex3 Ef4 Ex4 : Addr}
    (ea0 : PySem.W.nsIn K mainGlobals "BadStep" = some (some (.ref E0)))
    {en0 eq0 : Str} {eb0 em0 : List Value} {esn0 : _} {esu0 : _} {eab0 : _} {eco0 : _} {edd0 : _} {ek00 : _} {ek10 : _} {ek20 : _} {ek30 : _} {ek50 : _}
    (el0 : K.lookup E0 = some (excClassObj en0 eq0 E0 Ex0 eb0 em0 true esn0 esu0 eab0 eco0 edd0 ek00 ek10 ek20 ek30 ek50 "ValueError.__new__")) (ev0 : PySem.HandSPX.refsVE em0 = true) (es0 : PySem.W.findIn K (.ref E0) "__setattr__" = some (some (.builtin "object.__setattr__"))) (et0 : PySem.W.subIn K (.ref E0) (.type "BaseException") = some true) (ey0 : PySem.W.typeIn K (.ref E0) = some (.type "type")) (ek0 : PySem.W.keepIn K (.ref E0) = true)
    (ei0 : PySem.W.findIn K (.ref E0) "__init__" = some (some (.ref Ef0))) (ej0 : PySem.W.typeIn K (.ref Ef0) = some (.type "function"))
    {eoc0 ekv0 edc0 epm0 ecd0 ect0 : Value} {eod0 ean0 : Option Addr} {esl0 : Array (Option Value)} (eu0 : K.lookup Ef0 = some ⟨eoc0, eod0, .func (PySem.W.fnOf "__init__" "BadStep.__init__" (defArgs s_BadStep_init) (defBody s_BadStep_init) (defScope s_BadStep_init) .none ekv0 edc0 epm0 ean0 ecd0 ect0), esl0⟩) (ew0 : PySem.W.codeIn K ecd0 "BadStep.__init__" = true) (ez0 : PySem.W.keepIn K (.ref Ef0) = true)
    (eg0_index : PySem.W.findIn K (.ref E0) "index" = some none)
    (ea1 : PySem.W.nsIn K mainGlobals "TooLarge" = some (some (.ref E1)))
    {en1 eq1 : Str} {eb1 em1 : List Value} {esn1 : _} {esu1 : _} {eab1 : _} {eco1 : _} {edd1 : _} {ek01 : _} {ek11 : _} {ek21 : _} {ek31 : _} {ek51 : _}
    (el1 : K.lookup E1 = some (excClassObj en1 eq1 E1 Ex1 eb1 em1 true esn1 esu1 eab1 eco1 edd1 ek01 ek11 ek21 ek31 ek51 "ValueError.__new__")) (ev1 : PySem.HandSPX.refsVE em1 = true) (es1 : PySem.W.findIn K (.ref E1) "__setattr__" = some (some (.builtin "object.__setattr__"))) (et1 : PySem.W.subIn K (.ref E1) (.type "BaseException") = some true) (ey1 : PySem.W.typeIn K (.ref E1) = some (.type "type")) (ek1 : PySem.W.keepIn K (.ref E1) = true)
    (ei1 : PySem.W.findIn K (.ref E1) "__init__" = some (some (.ref Ef1))) (ej1 : PySem.W.typeIn K (.ref Ef1) = some (.type "function"))
    {eoc1 ekv1 edc1 epm1 ecd1 ect1 : Value} {eod1 ean1 : Option Addr} {esl1 : Array (Option Value)} (eu1 : K.lookup Ef1 = some ⟨eoc1, eod1, .func (PySem.W.fnOf "__init__" "TooLarge.__init__" (defArgs s_TooLarge_init) (defBody s_TooLarge_init) (defScope s_TooLarge_init) .none ekv1 edc1 epm1 ean1 ecd1 ect1), esl1⟩) (ew1 : PySem.W.codeIn K ecd1 "TooLarge.__init__" = true) (ez1 : PySem.W.keepIn K (.ref Ef1) = true)
    (eg1_limit : PySem.W.findIn K (.ref E1) "limit" = some none)
    (ea2 : PySem.W.nsIn K mainGlobals "BadLink" = some (some (.ref E2)))
    {en2 eq2 : Str} {eb2 em2 : List Value} {esn2 : _} {esu2 : _} {eab2 : _} {eco2 : _} {edd2 : _} {ek02 : _} {ek12 : _} {ek22 : _} {ek32 : _} {ek52 : _}
    (el2 : K.lookup E2 = some (excClassObj en2 eq2 E2 Ex2 eb2 em2 true esn2 esu2 eab2 eco2 edd2 ek02 ek12 ek22 ek32 ek52 "ValueError.__new__")) (ev2 : PySem.HandSPX.refsVE em2 = true) (es2 : PySem.W.findIn K (.ref E2) "__setattr__" = some (some (.builtin "object.__setattr__"))) (et2 : PySem.W.subIn K (.ref E2) (.type "BaseException") = some true) (ey2 : PySem.W.typeIn K (.ref E2) = some (.type "type")) (ek2 : PySem.W.keepIn K (.ref E2) = true)
    (ei2 : PySem.W.findIn K (.ref E2) "__init__" = some (some (.ref Ef2))) (ej2 : PySem.W.typeIn K (.ref Ef2) = some (.type "function"))
    {eoc2 ekv2 edc2 epm2 ecd2 ect2 : Value} {eod2 ean2 : Option Addr} {esl2 : Array (Option Value)} (eu2 : K.lookup Ef2 = some ⟨eoc2, eod2, .func (PySem.W.fnOf "__init__" "BadLink.__init__" (defArgs s_BadLink_init) (defBody s_BadLink_init) (defScope s_BadLink_init) .none ekv2 edc2 epm2 ean2 ecd2 ect2), esl2⟩) (ew2 : PySem.W.codeIn K ecd2 "BadLink.__init__" = true) (ez2 : PySem.W.keepIn K (.ref Ef2) = true)
    (eg2_index : PySem.W.findIn K (.ref E2) "index" = some none)
    (ea3 : PySem.W.nsIn K mainGlobals "BadSize" = some (some (.ref E3)))
    {en3 eq3 : Str} {eb3 em3 : List Value} {esn3 : _} {esu3 : _} {eab3 : _} {eco3 : _} {edd3 : _} {ek03 : _} {ek13 : _} {ek23 : _} {ek33 : _} {ek53 : _}
    (el3 : K.lookup E3 = some (excClassObj en3 eq3 E3 Ex3 eb3 em3 true esn3 esu3 eab3 eco3 edd3 ek03 ek13 ek23 ek33 ek53 "ValueError.__new__")) (ev3 : PySem.HandSPX.refsVE em3 = true) (es3 : PySem.W.findIn K (.ref E3) "__setattr__" = some (some (.builtin "object.__setattr__"))) (et3 : PySem.W.subIn K (.ref E3) (.type "BaseException") = some true) (ey3 : PySem.W.typeIn K (.ref E3) = some (.type "type")) (ek3 : PySem.W.keepIn K (.ref E3) = true)
    (ei3 : PySem.W.findIn K (.ref E3) "__init__" = some (some (.ref Ef3))) (ej3 : PySem.W.typeIn K (.ref Ef3) = some (.type "function"))
    {eoc3 ekv3 edc3 epm3 ecd3 ect3 : Value} {eod3 ean3 : Option Addr} {esl3 : Array (Option Value)} (eu3 : K.lookup Ef3 = some ⟨eoc3, eod3, .func (PySem.W.fnOf "__init__" "BadSize.__init__" (defArgs s_BadSize_init) (defBody s_BadSize_init) (defScope s_BadSize_init) .none ekv3 edc3 epm3 ean3 ecd3 ect3), esl3⟩) (ew3 : PySem.W.codeIn K ecd3 "BadSize.__init__" = true) (ez3 : PySem.W.keepIn K (.ref Ef3) = true)
    (eg3_size : PySem.W.findIn K (.ref E3) "size" = some none)
    (ea4 : PySem.W.nsIn K mainGlobals "NotConnected" = some (some (.ref E4)))
    {en4 eq4 : Str} {eb4 em4 : List Value} {esn4 : _} {esu4 : _} {eab4 : _} {eco4 : _} {edd4 : _} {ek04 : _} {ek14 : _} {ek24 : _} {ek34 : _} {ek54 : _}
    (el4 : K.lookup E4 = some (excClassObj en4 eq4 E4 Ex4 eb4 em4 true esn4 esu4 eab4 eco4 edd4 ek04 ek14 ek24 ek34 ek54 "ValueError.__new__")) (ev4 : PySem.HandSPX.refsVE em4 = true) (es4 : PySem.W.findIn K (.ref E4) "__setattr__" = some (some (.builtin "object.__setattr__"))) (et4 : PySem.W.subIn K (.ref E4) (.type "BaseException") = some true) (ey4 : PySem.W.typeIn K (.ref E4) = some (.type "type")) (ek4 : PySem.W.keepIn K (.ref E4) = true)
    (ei4 : PySem.W.findIn K (.ref E4) "__init__" = some (some (.ref Ef4))) (ej4 : PySem.W.typeIn K (.ref Ef4) = some (.type "function"))
    {eoc4 ekv4 edc4 epm4 ecd4 ect4 : Value} {eod4 ean4 : Option Addr} {esl4 : Array (Option Value)} (eu4 : K.lookup Ef4 = some ⟨eoc4, eod4, .func (PySem.W.fnOf "__init__" "NotConnected.__init__" (defArgs s_NotConnected_init) (defBody s_NotConnected_init) (defScope s_NotConnected_init) .none ekv4 edc4 epm4 ean4 ecd4 ect4), esl4⟩) (ew4 : PySem.W.codeIn K ecd4 "NotConnected.__init__" = true) (ez4 : PySem.W.keepIn K (.ref Ef4) = true)
    (eg4_node : PySem.W.findIn K (.ref E4) "node" = some none)
    (ea5 : PySem.W.nsIn K mainGlobals "BookError" = some (some (.ref E5)))
    (eh_BookError_BadStep : PySem.W.exmOne K (.ref E0) (.ref E5) = some true)
    (eh_BookError_TooLarge : PySem.W.exmOne K (.ref E1) (.ref E5) = some true)
    (eh_BookError_BadLink : PySem.W.exmOne K (.ref E2) (.ref E5) = some true)
    (eh_BookError_BadSize : PySem.W.exmOne K (.ref E3) (.ref E5) = some true)
    (eh_BookError_NotConnected : PySem.W.exmOne K (.ref E4) (.ref E5) = some true)
    (eq_BadSize_BadStep : PySem.W.kitOne K (.ref E0) (.ref E3) = some false)
    (eq_BadSize_TooLarge : PySem.W.kitOne K (.ref E1) (.ref E3) = some false)
    (eq_BadSize_BadLink : PySem.W.kitOne K (.ref E2) (.ref E3) = some false)
    (eq_BadSize_BadSize : PySem.W.kitOne K (.ref E3) (.ref E3) = some true)
    (eq_BadSize_NotConnected : PySem.W.kitOne K (.ref E4) (.ref E3) = some false)
    (eq_BadStep_BadStep : PySem.W.kitOne K (.ref E0) (.ref E0) = some true)
    (eq_BadStep_TooLarge : PySem.W.kitOne K (.ref E1) (.ref E0) = some false)
    (eq_BadStep_BadLink : PySem.W.kitOne K (.ref E2) (.ref E0) = some false)
    (eq_BadStep_BadSize : PySem.W.kitOne K (.ref E3) (.ref E0) = some false)
    (eq_BadStep_NotConnected : PySem.W.kitOne K (.ref E4) (.ref E0) = some false)
    (eq_TooLarge_BadStep : PySem.W.kitOne K (.ref E0) (.ref E1) = some false)
    (eq_TooLarge_TooLarge : PySem.W.kitOne K (.ref E1) (.ref E1) = some true)
    (eq_TooLarge_BadLink : PySem.W.kitOne K (.ref E2) (.ref E1) = some false)
    (eq_TooLarge_BadSize : PySem.W.kitOne K (.ref E3) (.ref E1) = some false)
    (eq_TooLarge_NotConnected : PySem.W.kitOne K (.ref E4) (.ref E1) = some false)
    (eq_ValueError_BadStep : PySem.W.kitOne K (.ref E0) (.type "ValueError") = some true)
    (eq_ValueError_TooLarge : PySem.W.kitOne K (.ref E1) (.type "ValueError") = some true)
    (eq_ValueError_BadLink : PySem.W.kitOne K (.ref E2) (.type "ValueError") = some true)
    (eq_ValueError_BadSize : PySem.W.kitOne K (.ref E3) (.type "ValueError") = some true)
    (eq_ValueError_NotConnected : PySem.W.kitOne K (.ref E4) (.type "ValueError") = some true)
    (ec_BadStep : excB K E0 = true)
    (ec_TooLarge : excB K E1 = true)
    (ec_BadLink : excB K E2 = true)
    (ec_BadSize : excB K E3 = true)
    (ec_NotConnected : excB K E4 = true)
    (ef_BadStep : xfB K E0 = true)
    (ef_BadLink : xfB K E2 = true)
    (ef_TooLarge : xfB K E1 = true)
    {tk_MOST_NODES : Tok} (gc_MOST_NODES : PySem.W.nsIn K mainGlobals "MOST_NODES" = some (some (.int 24 tk_MOST_NODES)))
    (z0 : PySem.W.nsIn K mainGlobals "ValueError" = some none)
    (z1 : PySem.W.nsIn K mainGlobals "all" = some none)
    (z2 : PySem.W.nsIn K mainGlobals "bool" = some none)
    (z3 : PySem.W.nsIn K mainGlobals "enumerate" = some none)
    (z4 : PySem.W.nsIn K mainGlobals "int" = some none)
    (z5 : PySem.W.nsIn K mainGlobals "isinstance" = some none)
    (z6 : PySem.W.nsIn K mainGlobals "len" = some none)
    (z7 : PySem.W.nsIn K mainGlobals "list" = some none)
    (z8 : PySem.W.nsIn K mainGlobals "max" = some none)
    (z9 : PySem.W.nsIn K mainGlobals "min" = some none)
    (z10 : PySem.W.nsIn K mainGlobals "range" = some none)
    (z11 : PySem.W.nsIn K mainGlobals "sorted" = some none)
    (z12 : PySem.W.nsIn K mainGlobals "str" = some none)
    (z13 : PySem.W.nsIn K mainGlobals "tuple" = some none)
    : ∃ fd : FuncData, (∀ (s : Shared) (u : Value), BindsTo s fd ⟨[u], []⟩ [("script", u)]) ∧ ∀ base : Heap, K.In base → base.Ns mainGlobals mg → FnOk P w K mg base (L2.CX P w) 13 fa fd ["script"] (spLaw K) := by
  have e := hfa.symm.trans (PySem.W.mg_of X G a27)
  cases e
  have T : Txt K mg :=
    { d_law_digits := defAt_mk X G a0 l0 c0 k0 fun _ _ _ _ _ _ us hl => match us, hl with | [_, _], _ => rfl
      d_law_cell := defAt_mk X G a1 l1 c1 k1 fun _ _ _ _ _ _ us hl => match us, hl with | [_, _], _ => rfl
      d_law_closure := defAt_mk X G a2 l2 c2 k2 fun _ _ _ _ _ _ us hl => match us, hl with | [_, _], _ => rfl
      d_frozen := defAt_mk X G a3 l3 c3 k3 fun _ _ _ _ _ _ us hl => match us, hl with | [_], _ => rfl
      d_is_number := defAt_mk X G a4 l4 c4 k4 fun _ _ _ _ _ _ us hl => match us, hl with | [_], _ => rfl
      d_is_perm := defAt_mk X G a5 l5 c5 k5 fun _ _ _ _ _ _ us hl => match us, hl with | [_, _], _ => rfl
      d_checked_steps := defAt_mk X G a6 l6 c6 k6 fun _ _ _ _ _ _ us hl => match us, hl with | [_, _], _ => rfl
      d_identity := defAt_mk X G a7 l7 c7 k7 fun _ _ _ _ _ _ us hl => match us, hl with | [_], _ => rfl
      d_composed := defAt_mk X G a8 l8 c8 k8 fun _ _ _ _ _ _ us hl => match us, hl with | [_, _], _ => rfl
      d_group := defAt_mk X G a9 l9 c9 k9 fun _ _ _ _ _ _ us hl => match us, hl with | [_, _], _ => rfl
      d_node_numbers := defAt_mk X G a10 l10 c10 k10 fun _ _ _ _ _ _ us hl => match us, hl with | [_], _ => rfl
      d_is_link := defAt_mk X G a11 l11 c11 k11 fun _ _ _ _ _ _ us hl => match us, hl with | [_, _], _ => rfl
      d_checked_links := defAt_mk X G a12 l12 c12 k12 fun _ _ _ _ _ _ us hl => match us, hl with | [_, _], _ => rfl
      d_near_nodes := defAt_mk X G a13 l13 c13 k13 fun _ _ _ _ _ _ us hl => match us, hl with | [_, _], _ => rfl
      d_lanes_of := defAt_mk X G a14 l14 c14 k14 fun _ _ _ _ _ _ us hl => match us, hl with | [_], _ => rfl
      d_reached := defAt_mk X G a15 l15 c15 k15 fun _ _ _ _ _ _ us hl => match us, hl with | [_, _, _], _ => rfl
      d_Net_init := initAt_mk X G xc0 ya16 a16 yb16 yc16 l16 c16 k16 fun _ _ _ _ _ _ us hl => match us, hl with | [_, _, _], _ => rfl
      d_step_net := defAt_mk X G a17 l17 c17 k17 fun _ _ _ _ _ _ us hl => match us, hl with | [_, _], _ => rfl
      d_step_turns := defAt_mk X G a18 l18 c18 k18 fun _ _ _ _ _ _ us hl => match us, hl with | [_, _], _ => rfl
      d_law_asked := defAt_mk X G a19 l19 c19 k19 fun _ _ _ _ _ _ us hl => match us, hl with | [_, _, _], _ => rfl
      d_law_whole := defAt_mk X G a20 l20 c20 k20 fun _ _ _ _ _ _ us hl => match us, hl with | [_], _ => rfl
      d_law_same := defAt_mk X G a21 l21 c21 k21 fun _ _ _ _ _ _ us hl => match us, hl with | [_, _], _ => rfl
      d_law_told := defAt_mk X G a22 l22 c22 k22 fun _ _ _ _ _ _ us hl => match us, hl with | [_, _], _ => rfl
      d_law_day := defAt_mk X G a23 l23 c23 k23 fun _ _ _ _ _ _ us hl => match us, hl with | [_, _], _ => rfl
      d_law_cycles := defAt_mk X G a24 l24 c24 k24 fun _ _ _ _ _ _ us hl => match us, hl with | [_, _, _], _ => rfl
      d_law_built := defAt_mk X G a25 l25 c25 k25 fun _ _ _ _ _ _ us hl => match us, hl with | [_], _ => rfl
      d_law_step := defAt_mk X G a26 l26 c26 k26 fun _ _ _ _ _ _ us hl => match us, hl with | [_, _], _ => rfl
      z_ValueError := PySem.W.mg_none_of X G z0
      z_all := PySem.W.mg_none_of X G z1
      z_bool := PySem.W.mg_none_of X G z2
      z_enumerate := PySem.W.mg_none_of X G z3
      z_int := PySem.W.mg_none_of X G z4
      z_isinstance := PySem.W.mg_none_of X G z5
      z_len := PySem.W.mg_none_of X G z6
      z_list := PySem.W.mg_none_of X G z7
      z_max := PySem.W.mg_none_of X G z8
      z_min := PySem.W.mg_none_of X G z9
      z_range := PySem.W.mg_none_of X G z10
      z_sorted := PySem.W.mg_none_of X G z11
      z_str := PySem.W.mg_none_of X G z12
      z_tuple := PySem.W.mg_none_of X G z13
      f_Net_lane_row := fldAt_mk X G xc0 (cls_mk xp0 xh0 xo0 xs0) xf_Net_lane_row
      f_Net_links := fldAt_mk X G xc0 (cls_mk xp0 xh0 xo0 xs0) xf_Net_links
      f_Net_near := fldAt_mk X G xc0 (cls_mk xp0 xh0 xo0 xs0) xf_Net_near
      f_Net_size := fldAt_mk X G xc0 (cls_mk xp0 xh0 xo0 xs0) xf_Net_size
      c_MOST_NODES := globI_mk (PySem.W.mg_of X G gc_MOST_NODES)
      e_BadStep := errAt_mk X G ea0 el0 ev0 es0 et0 ey0 ek0 ei0 ej0 eu0 ew0 ez0 (fun _ _ _ _ _ _ us hl => match us, hl with | [_, _], _ => rfl) (errF eg0_index (fun g hg => nomatch hg))
      e_TooLarge := errAt_mk X G ea1 el1 ev1 es1 et1 ey1 ek1 ei1 ej1 eu1 ew1 ez1 (fun _ _ _ _ _ _ us hl => match us, hl with | [_, _], _ => rfl) (errF eg1_limit (fun g hg => nomatch hg))
      e_BadLink := errAt_mk X G ea2 el2 ev2 es2 et2 ey2 ek2 ei2 ej2 eu2 ew2 ez2 (fun _ _ _ _ _ _ us hl => match us, hl with | [_, _], _ => rfl) (errF eg2_index (fun g hg => nomatch hg))
      e_BadSize := errAt_mk X G ea3 el3 ev3 es3 et3 ey3 ek3 ei3 ej3 eu3 ew3 ez3 (fun _ _ _ _ _ _ us hl => match us, hl with | [_, _], _ => rfl) (errF eg3_size (fun g hg => nomatch hg))
      e_NotConnected := errAt_mk X G ea4 el4 ev4 es4 et4 ey4 ek4 ei4 ej4 eu4 ew4 ez4 (fun _ _ _ _ _ _ us hl => match us, hl with | [_, _], _ => rfl) (errF eg4_node (fun g hg => nomatch hg))
      h_BookError := clauseAt_mk (PySem.W.mg_of X G ea5) (subAt_cons (PySem.W.mg_of X G ea0) eh_BookError_BadStep (subAt_cons (PySem.W.mg_of X G ea1) eh_BookError_TooLarge (subAt_cons (PySem.W.mg_of X G ea2) eh_BookError_BadLink (subAt_cons (PySem.W.mg_of X G ea3) eh_BookError_BadSize (subAt_cons (PySem.W.mg_of X G ea4) eh_BookError_NotConnected subAt_nil)))))
      y_BadSize := askOwn_mk (PySem.W.mg_of X G ea3) (askAt_cons (PySem.W.mg_of X G ea0) eq_BadSize_BadStep (askAt_cons (PySem.W.mg_of X G ea1) eq_BadSize_TooLarge (askAt_cons (PySem.W.mg_of X G ea2) eq_BadSize_BadLink (askAt_cons (PySem.W.mg_of X G ea3) eq_BadSize_BadSize (askAt_cons (PySem.W.mg_of X G ea4) eq_BadSize_NotConnected askAt_nil)))))
      y_BadStep := askOwn_mk (PySem.W.mg_of X G ea0) (askAt_cons (PySem.W.mg_of X G ea0) eq_BadStep_BadStep (askAt_cons (PySem.W.mg_of X G ea1) eq_BadStep_TooLarge (askAt_cons (PySem.W.mg_of X G ea2) eq_BadStep_BadLink (askAt_cons (PySem.W.mg_of X G ea3) eq_BadStep_BadSize (askAt_cons (PySem.W.mg_of X G ea4) eq_BadStep_NotConnected askAt_nil)))))
      y_TooLarge := askOwn_mk (PySem.W.mg_of X G ea1) (askAt_cons (PySem.W.mg_of X G ea0) eq_TooLarge_BadStep (askAt_cons (PySem.W.mg_of X G ea1) eq_TooLarge_TooLarge (askAt_cons (PySem.W.mg_of X G ea2) eq_TooLarge_BadLink (askAt_cons (PySem.W.mg_of X G ea3) eq_TooLarge_BadSize (askAt_cons (PySem.W.mg_of X G ea4) eq_TooLarge_NotConnected askAt_nil)))))
      y_ValueError := (askAt_cons (PySem.W.mg_of X G ea0) eq_ValueError_BadStep (askAt_cons (PySem.W.mg_of X G ea1) eq_ValueError_TooLarge (askAt_cons (PySem.W.mg_of X G ea2) eq_ValueError_BadLink (askAt_cons (PySem.W.mg_of X G ea3) eq_ValueError_BadSize (askAt_cons (PySem.W.mg_of X G ea4) eq_ValueError_NotConnected askAt_nil)))))
      xc := (errsC_cons (PySem.W.mg_of X G ea0) (excB_ok ec_BadStep) (errsC_cons (PySem.W.mg_of X G ea1) (excB_ok ec_TooLarge) (errsC_cons (PySem.W.mg_of X G ea2) (excB_ok ec_BadLink) (errsC_cons (PySem.W.mg_of X G ea3) (excB_ok ec_BadSize) (errsC_cons (PySem.W.mg_of X G ea4) (excB_ok ec_NotConnected) errsC_nil)))))
      x_index := (fldE_cons (PySem.W.mg_of X G ea0) ef_BadStep eg0_index (fldE_cons (PySem.W.mg_of X G ea2) ef_BadLink eg2_index fldE_nil))
      x_limit := (fldE_cons (PySem.W.mg_of X G ea1) ef_TooLarge eg1_limit fldE_nil) }
  exact ⟨_, fun s u => .of_eq rfl, fun base _ _ => law_imp (okf_law T (fun_mk (st := s_law) l27 c27 k27)) law_true⟩
end Kx
end
open PySem PySem.W PyProof.Rows
set_option maxRecDepth 100000 in
set_option maxHeartbeats 0 in
theorem PySem.Challenge.cw_nobadday_k08_groups_holds : PySem.Challenge.rw_nobadday_k08_groups.Holds := by
  w_on; o_law; k_head; (case hw => w_witness2)
  k_fill
  refine Da.walk_end (l := PySem.Challenge.rw_nobadday_k08_groups) (k := 13) rfl rfl ⟨rfl, by decide, by decide⟩ (fun w h Y => PySem.W.kIn_of Y) ?F
  case F =>
    intro w mg fa h KX G hmg
    refine' Kx.all_mk KX G hmg ?xc0 ?xp0 ?xh0 ?xo0 ?xs0 ?xf_Net_lane_row ?xf_Net_links ?xf_Net_near ?xf_Net_size ?a0 ?l0 ?c0 ?k0 ?a1 ?l1 ?c1 ?k1 ?a2 ?l2 ?c2 ?k2 ?a3 ?l3 ?c3 ?k3 ?a4 ?l4 ?c4 ?k4 ?a5 ?l5 ?c5 ?k5 ?a6 ?l6 ?c6 ?k6 ?a7 ?l7 ?c7 ?k7 ?a8 ?l8 ?c8 ?k8 ?a9 ?l9 ?c9 ?k9 ?a10 ?l10 ?c10 ?k10 ?a11 ?l11 ?c11 ?k11 ?a12 ?l12 ?c12 ?k12 ?a13 ?l13 ?c13 ?k13 ?a14 ?l14 ?c14 ?k14 ?a15 ?l15 ?c15 ?k15 ?a16 ?ya16 ?yb16 ?yc16 ?l16 ?c16 ?k16 ?a17 ?l17 ?c17 ?k17 ?a18 ?l18 ?c18 ?k18 ?a19 ?l19 ?c19 ?k19 ?a20 ?l20 ?c20 ?k20 ?a21 ?l21 ?c21 ?k21 ?a22 ?l22 ?c22 ?k22 ?a23 ?l23 ?c23 ?k23 ?a24 ?l24 ?c24 ?k24 ?a25 ?l25 ?c25 ?k25 ?a26 ?l26 ?c26 ?k26 ?a27 ?l27 ?c27 ?k27 ?ea0 ?el0 ?ev0 ?es0 ?et0 ?ey0 ?ek0 ?ei0 ?ej0 ?eu0 ?ew0 ?ez0 ?eg0_index ?ea1 ?el1 ?ev1 ?es1 ?et1 ?ey1 ?ek1 ?ei1 ?ej1 ?eu1 ?ew1 ?ez1 ?eg1_limit ?ea2 ?el2 ?ev2 ?es2 ?et2 ?ey2 ?ek2 ?ei2 ?ej2 ?eu2 ?ew2 ?ez2 ?eg2_index ?ea3 ?el3 ?ev3 ?es3 ?et3 ?ey3 ?ek3 ?ei3 ?ej3 ?eu3 ?ew3 ?ez3 ?eg3_size ?ea4 ?el4 ?ev4 ?es4 ?et4 ?ey4 ?ek4 ?ei4 ?ej4 ?eu4 ?ew4 ?ez4 ?eg4_node ?ea5 ?eh_BookError_BadStep ?eh_BookError_TooLarge ?eh_BookError_BadLink ?eh_BookError_BadSize ?eh_BookError_NotConnected ?eq_BadSize_BadStep ?eq_BadSize_TooLarge ?eq_BadSize_BadLink ?eq_BadSize_BadSize ?eq_BadSize_NotConnected ?eq_BadStep_BadStep ?eq_BadStep_TooLarge ?eq_BadStep_BadLink ?eq_BadStep_BadSize ?eq_BadStep_NotConnected ?eq_TooLarge_BadStep ?eq_TooLarge_TooLarge ?eq_TooLarge_BadLink ?eq_TooLarge_BadSize ?eq_TooLarge_NotConnected ?eq_ValueError_BadStep ?eq_ValueError_TooLarge ?eq_ValueError_BadLink ?eq_ValueError_BadSize ?eq_ValueError_NotConnected ?ec_BadStep ?ec_TooLarge ?ec_BadLink ?ec_BadSize ?ec_NotConnected ?ef_BadStep ?ef_BadLink ?ef_TooLarge ?gc_MOST_NODES ?z0 ?z1 ?z2 ?z3 ?z4 ?z5 ?z6 ?z7 ?z8 ?z9 ?z10 ?z11 ?z12 ?z13
    (case xc0 => k_is); (case xp0 => k_is); (case xh0 => k_is); (case xo0 => k_is); (case xs0 => k_is); (case xf_Net_lane_row => k_is); (case xf_Net_links => k_is); (case xf_Net_near => k_is)
    (case xf_Net_size => k_is); (case a0 => k_is); (case l0 => k_is); (case c0 => k_is); (case k0 => k_is); (case a1 => k_is); (case l1 => k_is); (case c1 => k_is)
    (case k1 => k_is); (case a2 => k_is); (case l2 => k_is); (case c2 => k_is); (case k2 => k_is); (case a3 => k_is); (case l3 => k_is); (case c3 => k_is)
    (case k3 => k_is); (case a4 => k_is); (case l4 => k_is); (case c4 => k_is); (case k4 => k_is); (case a5 => k_is); (case l5 => k_is); (case c5 => k_is)
    (case k5 => k_is); (case a6 => k_is); (case l6 => k_is); (case c6 => k_is); (case k6 => k_is); (case a7 => k_is); (case l7 => k_is); (case c7 => k_is)
    (case k7 => k_is); (case a8 => k_is); (case l8 => k_is); (case c8 => k_is); (case k8 => k_is); (case a9 => k_is); (case l9 => k_is); (case c9 => k_is)
    (case k9 => k_is); (case a10 => k_is); (case l10 => k_is); (case c10 => k_is); (case k10 => k_is); (case a11 => k_is); (case l11 => k_is); (case c11 => k_is)
    (case k11 => k_is); (case a12 => k_is); (case l12 => k_is); (case c12 => k_is); (case k12 => k_is); (case a13 => k_is); (case l13 => k_is); (case c13 => k_is)
    (case k13 => k_is); (case a14 => k_is); (case l14 => k_is); (case c14 => k_is); (case k14 => k_is); (case a15 => k_is); (case l15 => k_is); (case c15 => k_is)
    (case k15 => k_is); (case a16 => k_is); (case ya16 => k_is); (case yb16 => k_is); (case yc16 => k_is); (case l16 => k_is); (case c16 => k_is); (case k16 => k_is)
    (case a17 => k_is); (case l17 => k_is); (case c17 => k_is); (case k17 => k_is); (case a18 => k_is); (case l18 => k_is); (case c18 => k_is); (case k18 => k_is)
    (case a19 => k_is); (case l19 => k_is); (case c19 => k_is); (case k19 => k_is); (case a20 => k_is); (case l20 => k_is); (case c20 => k_is); (case k20 => k_is)
    (case a21 => k_is); (case l21 => k_is); (case c21 => k_is); (case k21 => k_is); (case a22 => k_is); (case l22 => k_is); (case c22 => k_is); (case k22 => k_is)
    (case a23 => k_is); (case l23 => k_is); (case c23 => k_is); (case k23 => k_is); (case a24 => k_is); (case l24 => k_is); (case c24 => k_is); (case k24 => k_is)
    (case a25 => k_is); (case l25 => k_is); (case c25 => k_is); (case k25 => k_is); (case a26 => k_is); (case l26 => k_is); (case c26 => k_is); (case k26 => k_is)
    (case a27 => k_is); (case l27 => k_is); (case c27 => k_is); (case k27 => k_is); (case ea0 => k_is); (case el0 => k_is); (case ev0 => kernel_rfl); (case es0 => k_is)
    (case et0 => k_is); (case ey0 => k_is); (case ek0 => k_is); (case ei0 => k_is); (case ej0 => k_is); (case eu0 => k_is); (case ew0 => k_is); (case ez0 => k_is)
    (case eg0_index => k_is); (case ea1 => k_is); (case el1 => k_is); (case ev1 => kernel_rfl); (case es1 => k_is); (case et1 => k_is); (case ey1 => k_is); (case ek1 => k_is)
    (case ei1 => k_is); (case ej1 => k_is); (case eu1 => k_is); (case ew1 => k_is); (case ez1 => k_is); (case eg1_limit => k_is); (case ea2 => k_is); (case el2 => k_is)
    (case ev2 => kernel_rfl); (case es2 => k_is); (case et2 => k_is); (case ey2 => k_is); (case ek2 => k_is); (case ei2 => k_is); (case ej2 => k_is); (case eu2 => k_is)
    (case ew2 => k_is); (case ez2 => k_is); (case eg2_index => k_is); (case ea3 => k_is); (case el3 => k_is); (case ev3 => kernel_rfl); (case es3 => k_is); (case et3 => k_is)
    (case ey3 => k_is); (case ek3 => k_is); (case ei3 => k_is); (case ej3 => k_is); (case eu3 => k_is); (case ew3 => k_is); (case ez3 => k_is); (case eg3_size => k_is)
    (case ea4 => k_is); (case el4 => k_is); (case ev4 => kernel_rfl); (case es4 => k_is); (case et4 => k_is); (case ey4 => k_is); (case ek4 => k_is); (case ei4 => k_is)
    (case ej4 => k_is); (case eu4 => k_is); (case ew4 => k_is); (case ez4 => k_is); (case eg4_node => k_is); (case ea5 => k_is); (case eh_BookError_BadStep => kernel_rfl); (case eh_BookError_TooLarge => kernel_rfl)
    (case eh_BookError_BadLink => kernel_rfl); (case eh_BookError_BadSize => kernel_rfl); (case eh_BookError_NotConnected => kernel_rfl); (case eq_BadSize_BadStep => kernel_rfl); (case eq_BadSize_TooLarge => kernel_rfl); (case eq_BadSize_BadLink => kernel_rfl); (case eq_BadSize_BadSize => kernel_rfl); (case eq_BadSize_NotConnected => kernel_rfl)
    (case eq_BadStep_BadStep => kernel_rfl); (case eq_BadStep_TooLarge => kernel_rfl); (case eq_BadStep_BadLink => kernel_rfl); (case eq_BadStep_BadSize => kernel_rfl); (case eq_BadStep_NotConnected => kernel_rfl); (case eq_TooLarge_BadStep => kernel_rfl); (case eq_TooLarge_TooLarge => kernel_rfl); (case eq_TooLarge_BadLink => kernel_rfl)
    (case eq_TooLarge_BadSize => kernel_rfl); (case eq_TooLarge_NotConnected => kernel_rfl); (case eq_ValueError_BadStep => kernel_rfl); (case eq_ValueError_TooLarge => kernel_rfl); (case eq_ValueError_BadLink => kernel_rfl); (case eq_ValueError_BadSize => kernel_rfl); (case eq_ValueError_NotConnected => kernel_rfl); (case ec_BadStep => kernel_rfl)
    (case ec_TooLarge => kernel_rfl); (case ec_BadLink => kernel_rfl); (case ec_BadSize => kernel_rfl); (case ec_NotConnected => kernel_rfl); (case ef_BadStep => kernel_rfl); (case ef_BadLink => kernel_rfl); (case ef_TooLarge => kernel_rfl); (case gc_MOST_NODES => k_is)
    (case z0 => k_is); (case z1 => k_is); (case z2 => k_is); (case z3 => k_is); (case z4 => k_is); (case z5 => k_is); (case z6 => k_is); (case z7 => k_is)
    (case z8 => k_is); (case z9 => k_is); (case z10 => k_is); (case z11 => k_is); (case z12 => k_is); (case z13 => k_is)
#print axioms PySem.Challenge.cw_nobadday_k08_groups_holds
