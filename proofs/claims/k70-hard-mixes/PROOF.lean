import PyProof.Rows.All
import Wide.All
import OpenK.AllK
import Wide.FinOn
import HandS.ForMost
import HandS.EndBits
import HandS.ForExc
import HandS.Wide
import HandS.Conv
import HandS.Style
import HandS.IsInst
import HandS.TupAny
import HandS.TupMul
import HandS.Deep
import HandS.Gcd
import HandS.Flow
import HandS.RevRange
import HandS.Rev
import HandS.Zip
import KE.SortData
import KE.GoesMore
import KE.OsSorts
import HandS.DictComp
import KE.KIndexOf
import HandS.Property
import KE.DataMinMax
import HandS.ExcInit
import HandS.ExcField
import HandS.ExcIs
import HandS.ExcOwn
import KE.KExcIs
import HandS.TupSets
import HandS.SetBool
import HandS.SetFor
import PyProof.Rows.SetFrom
import KE.KTupSum
import PyProof.DictUpdate
import HandS.HotCalls
import PySem.Challenge.RW_nobadday_k70_hard_mixes
set_option Elab.async false
set_option linter.all false
set_option maxRecDepth 100000
set_option maxHeartbeats 4000000
noncomputable section
namespace Da
open PySem PySem.Spec L2
/-- a check that nobody reckons out -/
@[irreducible] def stuck (p : Prop) : Bool := @decide p (Classical.propDecidable p)
theorem stuck_iff {p : Prop} : stuck p = true ↔ p := by unfold stuck; exact @decide_eq_true_iff p (Classical.propDecidable p)
/-- data, without the heap -/
inductive D where
  | non | bl (b : Bool) | int (i : Int) | str (s : Str)
  | lst (xs : List D) | tup (xs : List D) | frl (xs : List D)
  | dic (ks : List Key) (vs : List D) | dit (ks : List (List Key)) (vs : List D)
  | obj (c : Str) (ns : List Str) (vs : List D)
  /-- an error that an except suite holds -/
  | exc (c : Str) (ns : List Str) (vs : List D)
/-- what a run gives: a value, an own exception with its arguments, or nothing that is known -/
inductive Res (α : Type) where
  | ok (a : α) | ex (c : Str) (fs : List (Str × D)) | er
namespace Res
def bind {α β : Type} (r : Res α) (f : α → Res β) : Res β := match r with
  | .ok a => f a
  | .ex c fs => .ex c fs
  | .er => .er
@[simp] theorem bind_ok {α β : Type} (a : α) (f : α → Res β) : (Res.ok a).bind f = f a := rfl
@[simp] theorem bind_ex {α β : Type} (c : Str) (as : List (Str × D)) (f : α → Res β) : (Res.ex c as : Res α).bind f = .ex c as := rfl
@[simp] theorem bind_er {α β : Type} (f : α → Res β) : (Res.er : Res α).bind f = .er := rfl
end Res
/-- the value v stands for the data d, read in the view S -/
inductive Rep (K : PySem.W.Frag) (mg : Str → Option Value) (S : Hp) : V → D → Prop where
  | non : Rep K mg S .non .non
  | bl (b : Bool) : Rep K mg S (.bl b) (.bl b)
  | int (i : Int) : Rep K mg S (.int i) (.int i)
  | str (x : Str) : Rep K mg S (.str x) (.str x)
  | lst {a : Addr} {vs : List V} {ds : List D} (h : S a = some (.lst vs)) (hl : vs.length = ds.length) (hi : ∀ (i : Nat) (v : V) (d : D), vs[i]? = some v → ds[i]? = some d → Rep K mg S v d) : Rep K mg S (.ref a) (.lst ds)
  | tup {a : Addr} {vs : List V} {ds : List D} (h : S a = some (.tup vs)) (hl : vs.length = ds.length) (hi : ∀ (i : Nat) (v : V) (d : D), vs[i]? = some v → ds[i]? = some d → Rep K mg S v d) : Rep K mg S (.ref a) (.tup ds)
  | frl {a : Addr} {vs : List V} {ds : List D} (h : SqL K S a vs) (hl : vs.length = ds.length) (hi : ∀ (i : Nat) (v : V) (d : D), vs[i]? = some v → ds[i]? = some d → Rep K mg S v d) : Rep K mg S (.ref a) (.frl ds)
  | dic {a : Addr} {kvs : List (Key × V)} {ds : List D} (h : Rd S a (.dK kvs)) (hl : kvs.length = ds.length) (hi : ∀ (i : Nat) (p : Key × V) (d : D), kvs[i]? = some p → ds[i]? = some d → Rep K mg S p.2 d) : Rep K mg S (.ref a) (.dic (kvs.map (·.1)) ds)
  | dit {a : Addr} {kvs : List (List Key × V)} {ds : List D} (h : S a = some (.dT kvs)) (hl : kvs.length = ds.length) (hi : ∀ (i : Nat) (p : List Key × V) (d : D), kvs[i]? = some p → ds[i]? = some d → Rep K mg S p.2 d) : Rep K mg S (.ref a) (.dit (kvs.map (·.1)) ds)
  | obj {a C dx : Addr} {c : Str} {fs : List (Str × V)} {ds : List D} (h : S a = some (.ins C dx fs)) (hm : mg c = some (.ref C)) (hl : fs.length = ds.length) (hi : ∀ (i : Nat) (p : Str × V) (d : D), fs[i]? = some p → ds[i]? = some d → Rep K mg S p.2 d) : Rep K mg S (.ref a) (.obj c (fs.map (·.1)) ds)
  | exc {a : Addr} {c : Str} {ns : List Str} {ds : List D} : Rep K mg S (.ref a) (.exc c ns ds)
section
variable {K : PySem.W.Frag} {mg : Str → Option Value} {S S' H H' : Hp}
theorem same_rd {a : Addr} {u : HO} (e : Same S S') (h : Rd S a u) : Rd S' a u := by
  rcases h with h | ⟨o, h⟩
  · exact .inl (e _ _ h)
  · exact .inr ⟨o, e _ _ h⟩
theorem same_l {a : Addr} {xs : List V} (e : Same S S') (h : SqL K S a xs) : SqL K S' a xs := by
  rcases h with h | h
  · exact .inl (same_rd e h)
  · exact .inr h
theorem same_t {a : Addr} {xs : List V} (e : Same S S') (h : SqT K S a xs) : SqT K S' a xs := by
  rcases h with h | h
  · exact .inl (same_rd e h)
  · exact .inr h
theorem Rep.mono {v : V} {d : D} (e : Same S S') (h : Rep K mg S v d) : Rep K mg S' v d := by
  induction h with
  | non => exact .non
  | bl b => exact .bl b
  | int i => exact .int i
  | str x => exact .str x
  | lst h hl _ ih => exact .lst (e _ _ h) hl ih
  | frl h hl _ ih => exact .frl (same_l e h) hl ih
  | tup h hl _ ih => exact .tup (e _ _ h) hl ih
  | dic h hl _ ih => exact .dic (same_rd e h) hl ih
  | dit h hl _ ih => exact .dit (e _ _ h) hl ih
  | obj h hm hl _ ih => exact .obj (e _ _ h) hm hl ih
  | exc => exact .exc
/-- item by item -/
structure RepL (K : PySem.W.Frag) (mg : Str → Option Value) (S : Hp) (vs : List V) (ds : List D) : Prop where
  len : vs.length = ds.length
  at_ : ∀ (i : Nat) (v : V) (d : D), vs[i]? = some v → ds[i]? = some d → Rep K mg S v d
theorem RepL.mono {vs : List V} {ds : List D} (e : Same S S') (h : RepL K mg S vs ds) : RepL K mg S' vs ds := ⟨h.len, fun i v d a b => (h.at_ i v d a b).mono e⟩
theorem RepL.nil : RepL K mg S [] [] := ⟨rfl, fun i v d a _ => by simp at a⟩
theorem RepL.cons {v : V} {d : D} {vs : List V} {ds : List D} (h : Rep K mg S v d) (t : RepL K mg S vs ds) : RepL K mg S (v :: vs) (d :: ds) := by
  refine ⟨by rw [List.length_cons, List.length_cons, t.len], fun i w e a b => ?_⟩
  cases i with
  | zero =>
    rw [List.getElem?_cons_zero] at a b
    cases a; cases b
    exact h
  | succ i =>
    rw [List.getElem?_cons_succ] at a b
    exact t.at_ i w e a b
theorem RepL.head {v : V} {d : D} {vs : List V} {ds : List D} (t : RepL K mg S (v :: vs) (d :: ds)) : Rep K mg S v d := t.at_ 0 v d rfl rfl
theorem RepL.tail {v : V} {d : D} {vs : List V} {ds : List D} (t : RepL K mg S (v :: vs) (d :: ds)) : RepL K mg S vs ds :=
  ⟨by have := t.len; simpa using this, fun i w e a b => t.at_ (i + 1) w e (by simpa using a) (by simpa using b)⟩
theorem RepL.get {vs : List V} {ds : List D} {i : Nat} {d : D} (t : RepL K mg S vs ds) (h : ds[i]? = some d) : ∃ v, vs[i]? = some v ∧ Rep K mg S v d := by
  have hi := (List.getElem?_eq_some_iff.mp h).1
  have hv : i < vs.length := by rw [t.len]; exact hi
  exact ⟨vs[i], List.getElem?_eq_getElem hv, t.at_ i _ d (List.getElem?_eq_getElem hv) h⟩
theorem RepL.append {vs ws : List V} {ds es : List D} (t : RepL K mg S vs ds) (u : RepL K mg S ws es) : RepL K mg S (vs ++ ws) (ds ++ es) := by
  refine ⟨by rw [List.length_append, List.length_append, t.len, u.len], fun i w e a b => ?_⟩
  by_cases h : i < vs.length
  · rw [List.getElem?_append_left h] at a
    rw [List.getElem?_append_left (by rw [← t.len]; exact h)] at b
    exact t.at_ i w e a b
  · rw [List.getElem?_append_right (by omega)] at a
    rw [List.getElem?_append_right (by rw [← t.len]; omega), ← t.len] at b
    exact u.at_ _ w e a b
theorem RepL.snoc {vs : List V} {ds : List D} {v : V} {d : D} (t : RepL K mg S vs ds) (h : Rep K mg S v d) : RepL K mg S (vs ++ [v]) (ds ++ [d]) := t.append (.cons h .nil)
theorem RepL.set {vs : List V} {ds : List D} {v : V} {d : D} (t : RepL K mg S vs ds) (j : Nat) (h : Rep K mg S v d) : RepL K mg S (vs.set j v) (ds.set j d) := by
  refine ⟨by rw [List.length_set, List.length_set, t.len], fun i w e a b => ?_⟩
  rw [List.getElem?_set] at a b
  by_cases hj : j = i
  · subst hj
    rw [if_pos rfl] at a b
    split at a
    · rename_i h1
      rw [if_pos (by rw [← t.len]; exact h1)] at b
      cases a; cases b
      exact h
    · cases a
  · rw [if_neg hj] at a b
    exact t.at_ i w e a b
theorem RepL.take {vs : List V} {ds : List D} (n : Nat) (t : RepL K mg S vs ds) : RepL K mg S (vs.take n) (ds.take n) := by
  refine ⟨by rw [List.length_take, List.length_take, t.len], fun i w e a b => ?_⟩
  rw [List.getElem?_take] at a b
  split at a
  · rename_i h
    rw [if_pos h] at b
    exact t.at_ i w e a b
  · cases a
theorem RepL.drop {vs : List V} {ds : List D} (n : Nat) (t : RepL K mg S vs ds) : RepL K mg S (vs.drop n) (ds.drop n) := by
  refine ⟨by rw [List.length_drop, List.length_drop, t.len], fun i w e a b => ?_⟩
  rw [List.getElem?_drop] at a b
  exact t.at_ _ w e a b
theorem RepL.eraseIdx {vs : List V} {ds : List D} (n : Nat) (t : RepL K mg S vs ds) : RepL K mg S (vs.eraseIdx n) (ds.eraseIdx n) := by
  rw [List.eraseIdx_eq_take_drop_succ, List.eraseIdx_eq_take_drop_succ]
  exact (t.take n).append (t.drop (n + 1))
theorem RepL.dropLast {vs : List V} {ds : List D} (t : RepL K mg S vs ds) : RepL K mg S vs.dropLast ds.dropLast := by
  rw [List.dropLast_eq_take, List.dropLast_eq_take, t.len]
  exact t.take _
theorem Rep.lstL {a : Addr} {vs : List V} {ds : List D} (h : S a = some (.lst vs)) (t : RepL K mg S vs ds) : Rep K mg S (.ref a) (.lst ds) := .lst h t.len t.at_
theorem Rep.tupL {a : Addr} {vs : List V} {ds : List D} (h : S a = some (.tup vs)) (t : RepL K mg S vs ds) : Rep K mg S (.ref a) (.tup ds) := .tup h t.len t.at_
theorem Rep.of_lst {v : V} {ds : List D} (h : Rep K mg S v (.lst ds)) : ∃ a vs, v = .ref a ∧ S a = some (.lst vs) ∧ RepL K mg S vs ds := by
  cases h with
  | lst h hl hi => exact ⟨_, _, rfl, h, hl, hi⟩
theorem Rep.of_frl {v : V} {ds : List D} (h : Rep K mg S v (.frl ds)) : ∃ a vs, v = .ref a ∧ SqL K S a vs ∧ RepL K mg S vs ds := by
  cases h with
  | frl h hl hi => exact ⟨_, _, rfl, h, hl, hi⟩
theorem Rep.of_tupS {v : V} {ds : List D} (h : Rep K mg S v (.tup ds)) : ∃ a vs, v = .ref a ∧ S a = some (.tup vs) ∧ RepL K mg S vs ds := by
  cases h with
  | tup h hl hi => exact ⟨_, _, rfl, h, hl, hi⟩
theorem Rep.of_tup {v : V} {ds : List D} (h : Rep K mg S v (.tup ds)) : ∃ a vs, v = .ref a ∧ SqT K S a vs ∧ RepL K mg S vs ds := by
  obtain ⟨a, vs, e, h, r⟩ := h.of_tupS
  exact ⟨a, vs, e, .inl (.inl h), r⟩
theorem Rep.of_int {v : V} {i : Int} (h : Rep K mg S v (.int i)) : v = .int i := by cases h; rfl
theorem Rep.of_bl {v : V} {i : Bool} (h : Rep K mg S v (.bl i)) : v = .bl i := by cases h; rfl
/-- whole numbers -/
theorem RepL.ints : ∀ {vs : List V} {ns : List Int}, RepL K mg S vs (ns.map D.int) → vs = ns.map V.int
  | [], [], _ => rfl
  | [], _ :: _, h => by have := h.len; simp at this
  | _ :: _, [], h => by have := h.len; simp at this
  | v :: vs, n :: ns, h => by
    have e1 := h.head.of_int
    have e2 := RepL.ints (ns := ns) h.tail
    rw [e1, e2]
    rfl
theorem RepL.bls : ∀ {vs : List V} {ns : List Bool}, RepL K mg S vs (ns.map D.bl) → vs = ns.map V.bl
  | [], [], _ => rfl
  | [], _ :: _, h => by have := h.len; simp at this
  | _ :: _, [], h => by have := h.len; simp at this
  | v :: vs, n :: ns, h => by
    have e1 := h.head.of_bl
    have e2 := RepL.bls (ns := ns) h.tail
    rw [e1, e2]
    rfl
theorem RepL.of_ints : ∀ (ns : List Int), RepL K mg S (ns.map V.int) (ns.map D.int)
  | [] => .nil
  | n :: ns => .cons (.int n) (RepL.of_ints ns)
/-- from the view S of H to the view S' of H': all that stood stands; what the view has more is new -/
structure Step (S H S' H' : Hp) : Prop where
  hh : Same H H'
  ss : Same S S'
  sub : Same S' H'
  new : ∀ a, S' a ≠ none → S a ≠ none ∨ H a = none
theorem Step.refl (h : Same S H) : Step S H S H := ⟨Same.refl _, Same.refl _, h, fun _ x => .inl x⟩
theorem Step.trans {S1 H1 S2 H2 : Hp} (a : Step S H S1 H1) (b : Step S1 H1 S2 H2) : Step S H S2 H2 :=
  ⟨a.hh.trans b.hh, a.ss.trans b.ss, b.sub, fun x h => by
    rcases b.new x h with h | h
    · exact a.new x h
    · exact .inr (a.hh.free h)⟩
theorem Same.upd_new {H : Hp} {p : Addr} {o : HO} (h : H p = none) : Same H (upd H p o) := fun b x e => by
  rw [upd_ne (ne_of_none e h)]
  exact e
/-- a new object that the view takes in -/
theorem Step.laid {p : Addr} {o : HO} (h : Same S H) (hp : H p = none) : Step S H (upd S p o) (upd H p o) := by
  have sp : S p = none := h.free hp
  refine ⟨Same.upd_new hp, Same.upd_new sp, fun b x e => ?_, fun a x => ?_⟩
  · by_cases hb : b = p
    · subst hb
      rw [upd_same] at e ⊢
      exact e
    · rw [upd_ne hb] at e ⊢
      exact h b x e
  · by_cases ha : a = p
    · subst ha
      exact .inr hp
    · rw [upd_ne ha] at x
      exact .inl x
/-- a new object that the view does not take in -/
theorem Step.hid {p : Addr} {o : HO} (h : Same S H) (hp : H p = none) : Step S H S (upd H p o) :=
  ⟨Same.upd_new hp, Same.refl _, h.trans (Same.upd_new hp), fun _ x => .inl x⟩
theorem Step.out {S H S' H' : Hp} (a : Step S H S' H') {p : Addr} {o : HO} (h : S p = none) (hp : H p = some o) : S' p = none := by
  cases e : S' p with
  | none => rfl
  | some u =>
    rcases a.new p (by rw [e]; exact fun z => nomatch z) with z | z
    · exact absurd h z
    · rw [hp] at z; cases z
end
/-- shared data; a list that is the slot's own; an own list of own lists; an own dict (keys ints and texts; tuples) -/
inductive Md where
  | sh | ow | ow2 | dk | dt | ob (p : Addr) | ex (a : Addr) (cls : Value) (dd : Option Addr)
  /-- an own list that stands at q; an own tree of lists, n deep, one of whose lists is lent, that stands at a known place -/
  | owq (q : Addr) | tr (n : Nat) (h : Option (Nat × Addr)) (at_ : Option Addr)
  deriving DecidableEq
/-- what stands in the place of a list that is lent -/
def junk : D := .exc "" [] []
/-- a tree of lists of one's own, n deep -/
def OwnTr (K : PySem.W.Frag) (mg : Str → Option Value) (S H : Hp) : Nat → List Addr → V → D → Prop
  | 0, fp, v, d => Rep K mg S v d ∧ fp = []
  | n + 1, fp, v, d => ∃ (p : Addr) (vs : List V) (ds : List D) (fps : List (List Addr)), v = .ref p ∧ d = .lst ds ∧ fp = p :: fps.flatten ∧ S p = none ∧ H p = some (.lst vs) ∧ vs.length = ds.length ∧ fps.length = ds.length ∧
      ∀ (j : Nat) (w : V) (e : D) (f : List Addr), vs[j]? = some w → ds[j]? = some e → fps[j]? = some f → OwnTr K mg S H n f w e
/-- .. whose list number k, at q, is lent -/
def OwnTh (K : PySem.W.Frag) (mg : Str → Option Value) (S H : Hp) (n k : Nat) (q : Addr) (fp : List Addr) (v : V) (d : D) : Prop :=
  ∃ (p : Addr) (vs : List V) (ds : List D) (fps : List (List Addr)), v = .ref p ∧ d = .lst ds ∧ fp = p :: fps.flatten ∧ S p = none ∧ H p = some (.lst vs) ∧ vs.length = ds.length ∧ fps.length = ds.length ∧
      vs[k]? = some (.ref q) ∧ ds[k]? = some junk ∧ fps[k]? = some [] ∧
      ∀ (j : Nat) (w : V) (e : D) (f : List Addr), j ≠ k → vs[j]? = some w → ds[j]? = some e → fps[j]? = some f → OwnTr K mg S H n f w e
/-- what v is under the mode, in the view S of H, standing at the addresses fp -/
def OwnAt (K : PySem.W.Frag) (mg : Str → Option Value) (S H : Hp) (fp : List Addr) (v : V) (d : D) : Md → Prop
  | .sh => Rep K mg S v d ∧ fp = []
  | .ow => ∃ p vs ds, v = .ref p ∧ d = .lst ds ∧ fp = [p] ∧ S p = none ∧ H p = some (.lst vs) ∧ RepL K mg S vs ds
  | .ow2 => ∃ (p : Addr) (ps : List Addr) (dss : List (List D)), v = .ref p ∧ d = .lst (dss.map D.lst) ∧ fp = p :: ps ∧ S p = none ∧ H p = some (.lst (ps.map V.ref)) ∧ ps.length = dss.length ∧
      ∀ (j : Nat) (q : Addr) (ds : List D), ps[j]? = some q → dss[j]? = some ds → S q = none ∧ ∃ vs, H q = some (.lst vs) ∧ RepL K mg S vs ds
  | .dk => ∃ (p : Addr) (kvs : List (Key × V)) (ds : List D), v = .ref p ∧ d = .dic (kvs.map (·.1)) ds ∧ fp = [p] ∧ S p = none ∧ H p = some (.dK kvs) ∧ RepL K mg S (kvs.map (·.2)) ds
  | .dt => ∃ (p : Addr) (kvs : List (List Key × V)) (ds : List D), v = .ref p ∧ d = .dit (kvs.map (·.1)) ds ∧ fp = [p] ∧ S p = none ∧ H p = some (.dT kvs) ∧ RepL K mg S (kvs.map (·.2)) ds
  | .ob p => ∃ (dx C : Addr) (c : Str) (fs : List (Str × V)) (ds : List D), v = .ref p ∧ d = .obj c (fs.map (·.1)) ds ∧ fp = [p, dx] ∧ S p = none ∧ S dx = none ∧ mg c = some (.ref C) ∧ H p = some (.ins C dx fs) ∧ H dx = some (.own p) ∧ RepL K mg S (fs.map (·.2)) ds
  | .owq q => v = .ref q ∧ ∃ p vs ds, v = .ref p ∧ d = .lst ds ∧ fp = [p] ∧ S p = none ∧ H p = some (.lst vs) ∧ RepL K mg S vs ds
  | .tr n none a => (∀ q, a = some q → v = .ref q) ∧ OwnTr K mg S H n fp v d
  | .tr n (some (k, q)) a => (∀ q, a = some q → v = .ref q) ∧ OwnTh K mg S H (n - 1) k q fp v d
  | .ex a cls dd => ∃ (c : Str) (vfs : List (Str × V)) (ds : List D), v = .ref a ∧ d = .exc c (vfs.map (·.1)) ds ∧ fp = [] ∧ mg c = some cls ∧ ((vfs = [] ∧ dd = none) ∨ ∃ dx, dd = some dx ∧ S dx = some (.xd vfs)) ∧ RepL K mg S (vfs.map (·.2)) ds
section
variable {K : PySem.W.Frag} {mg : Str → Option Value} {S S' H H' : Hp} {fp : List Addr} {v : V} {d : D} {md : Md}
theorem mem_flat {fps : List (List Addr)} {a : Addr} (h : a ∈ fps.flatten) : ∃ (j : Nat) (f : List Addr), fps[j]? = some f ∧ a ∈ f := by
  obtain ⟨f, hf, ha⟩ := List.mem_flatten.mp h
  obtain ⟨j, hj⟩ := List.mem_iff_getElem?.mp hf
  exact ⟨j, f, hj, ha⟩
theorem flat_mem {fps : List (List Addr)} {a : Addr} {j : Nat} {f : List Addr} (hj : fps[j]? = some f) (ha : a ∈ f) : a ∈ fps.flatten := List.mem_flatten.mpr ⟨f, List.mem_of_getElem? hj, ha⟩
theorem OwnTr.step (a : Step S H S' H') : ∀ {n : Nat} {fp : List Addr} {v : V} {d : D}, OwnTr K mg S H n fp v d → OwnTr K mg S' H' n fp v d
  | 0, _, _, _, h => ⟨h.1.mono a.ss, h.2⟩
  | n + 1, _, _, _, h => by
    obtain ⟨p, vs, ds, fps, e1, e2, e3, e4, e5, e6, e7, e8⟩ := h
    exact ⟨p, vs, ds, fps, e1, e2, e3, a.out e4 e5, a.hh _ _ e5, e6, e7, fun j w e f x y z => (e8 j w e f x y z).step a⟩
theorem OwnTr.out : ∀ {n : Nat} {fp : List Addr} {v : V} {d : D}, OwnTr K mg S H n fp v d → ∀ {a : Addr}, a ∈ fp → S a = none ∧ ∃ o, H a = some o
  | 0, _, _, _, h, a, ha => by rw [h.2] at ha; cases ha
  | n + 1, _, _, _, h, a, ha => by
    obtain ⟨p, vs, ds, fps, e1, e2, e3, e4, e5, e6, e7, e8⟩ := h
    rw [e3] at ha
    rcases List.mem_cons.mp ha with rfl | ha
    · exact ⟨e4, _, e5⟩
    · obtain ⟨j, f, hj, hf⟩ := mem_flat ha
      have hl := (List.getElem?_eq_some_iff.mp hj).1
      exact (e8 j _ _ f (List.getElem?_eq_getElem (by omega)) (List.getElem?_eq_getElem (by omega)) hj).out hf
theorem OwnTr.other {p : Addr} {o : HO} (hp : S p = none) : ∀ {n : Nat} {fp : List Addr} {v : V} {d : D}, p ∉ fp → OwnTr K mg S H n fp v d → OwnTr K mg S (upd H p o) n fp v d
  | 0, _, _, _, _, h => h
  | n + 1, _, _, _, hf, h => by
    obtain ⟨q, vs, ds, fps, e1, e2, e3, e4, e5, e6, e7, e8⟩ := h
    refine ⟨q, vs, ds, fps, e1, e2, e3, e4, ?_, e6, e7, fun j w e f x y z => (e8 j w e f x y z).other hp fun i => hf ?_⟩
    · rw [upd_ne (fun z => hf (by rw [e3, z]; exact List.mem_cons_self))]
      exact e5
    · rw [e3]; exact List.mem_cons_of_mem _ (flat_mem z i)
theorem OwnTh.step {n k : Nat} {q : Addr} (a : Step S H S' H') (h : OwnTh K mg S H n k q fp v d) : OwnTh K mg S' H' n k q fp v d := by
  obtain ⟨p, vs, ds, fps, e1, e2, e3, e4, e5, e6, e7, h1, h2, h3, e8⟩ := h
  exact ⟨p, vs, ds, fps, e1, e2, e3, a.out e4 e5, a.hh _ _ e5, e6, e7, h1, h2, h3, fun j w e f i x y z => (e8 j w e f i x y z).step a⟩
theorem OwnTh.out {n k : Nat} {q : Addr} (h : OwnTh K mg S H n k q fp v d) {a : Addr} (ha : a ∈ fp) : S a = none ∧ ∃ o, H a = some o := by
  obtain ⟨p, vs, ds, fps, e1, e2, e3, e4, e5, e6, e7, h1, h2, h3, e8⟩ := h
  rw [e3] at ha
  rcases List.mem_cons.mp ha with rfl | ha
  · exact ⟨e4, _, e5⟩
  · obtain ⟨j, f, hj, hf⟩ := mem_flat ha
    have hl := (List.getElem?_eq_some_iff.mp hj).1
    have hjk : j ≠ k := fun z => by subst z; rw [h3] at hj; cases hj; cases hf
    exact (e8 j _ _ f hjk (List.getElem?_eq_getElem (by omega)) (List.getElem?_eq_getElem (by omega)) hj).out hf
theorem OwnTh.other {n k : Nat} {q : Addr} {p : Addr} {o : HO} (hp : S p = none) (hf : p ∉ fp) (h : OwnTh K mg S H n k q fp v d) : OwnTh K mg S (upd H p o) n k q fp v d := by
  obtain ⟨p', vs, ds, fps, e1, e2, e3, e4, e5, e6, e7, h1, h2, h3, e8⟩ := h
  refine ⟨p', vs, ds, fps, e1, e2, e3, e4, ?_, e6, e7, h1, h2, h3, fun j w e f i x y z => (e8 j w e f i x y z).other hp fun i => hf ?_⟩
  · rw [upd_ne (fun z => hf (by rw [e3, z]; exact List.mem_cons_self))]
    exact e5
  · rw [e3]; exact List.mem_cons_of_mem _ (flat_mem z i)
theorem OwnAt.step (a : Step S H S' H') (h : OwnAt K mg S H fp v d md) : OwnAt K mg S' H' fp v d md := by
  cases md with
  | owq q0 =>
    obtain ⟨e0, p, vs, ds, e1, e2, e3, e4, e5, e6⟩ := h
    exact ⟨e0, p, vs, ds, e1, e2, e3, a.out e4 e5, a.hh _ _ e5, e6.mono a.ss⟩
  | tr n b at_ =>
    cases b with
    | none => exact ⟨h.1, h.2.step a⟩
    | some kq => exact ⟨h.1, h.2.step a⟩
  | ex a0 b0 c0 =>
    obtain ⟨c, vfs, ds, e1, e2, e3, e4, e5, e6⟩ := h
    refine ⟨c, vfs, ds, e1, e2, e3, e4, e5.imp id fun ⟨dx, y1, y2⟩ => ⟨dx, y1, a.ss _ _ y2⟩, e6.mono (a.ss)⟩
  | sh => exact ⟨h.1.mono a.ss, h.2⟩
  | ow =>
    obtain ⟨p, vs, ds, e1, e2, e3, e4, e5, e6⟩ := h
    exact ⟨p, vs, ds, e1, e2, e3, a.out e4 e5, a.hh _ _ e5, e6.mono a.ss⟩
  | ow2 =>
    obtain ⟨p, ps, dss, e1, e2, e3, e4, e5, e6, e7⟩ := h
    refine ⟨p, ps, dss, e1, e2, e3, a.out e4 e5, a.hh _ _ e5, e6, fun j q ds x y => ?_⟩
    obtain ⟨z1, vs, z2, z3⟩ := e7 j q ds x y
    exact ⟨a.out z1 z2, vs, a.hh _ _ z2, z3.mono a.ss⟩
  | dk =>
    obtain ⟨p, vs, ds, e1, e2, e3, e4, e5, e6⟩ := h
    exact ⟨p, vs, ds, e1, e2, e3, a.out e4 e5, a.hh _ _ e5, e6.mono a.ss⟩
  | dt =>
    obtain ⟨p, vs, ds, e1, e2, e3, e4, e5, e6⟩ := h
    exact ⟨p, vs, ds, e1, e2, e3, a.out e4 e5, a.hh _ _ e5, e6.mono a.ss⟩
  | ob p =>
    obtain ⟨dx, C, c, fs, ds, e1, e2, e3, e4, e5, e6, e7, e8, e9⟩ := h
    exact ⟨dx, C, c, fs, ds, e1, e2, e3, a.out e4 e7, a.out e5 e8, e6, a.hh _ _ e7, a.hh _ _ e8, e9.mono a.ss⟩
/-- its addresses are tracked, and out of the view -/
theorem OwnAt.out (h : OwnAt K mg S H fp v d md) {a : Addr} (ha : a ∈ fp) : S a = none ∧ ∃ o, H a = some o := by
  cases md with
  | owq q0 =>
    obtain ⟨e0, p, vs, ds, e1, e2, e3, e4, e5, e6⟩ := h
    rw [e3] at ha
    have : a = p := by simpa using ha
    subst this
    exact ⟨e4, _, e5⟩
  | tr n b at_ =>
    cases b with
    | none => exact h.2.out ha
    | some kq => exact h.2.out ha
  | ex a0 b0 c0 =>
    obtain ⟨c, vfs, ds, e1, e2, e3, e4, e5, e6⟩ := h
    rw [e3] at ha; cases ha
  | sh => rw [h.2] at ha; cases ha
  | ow =>
    obtain ⟨p, vs, ds, e1, e2, e3, e4, e5, e6⟩ := h
    rw [e3] at ha
    have : a = p := by simpa using ha
    subst this
    exact ⟨e4, _, e5⟩
  | ow2 =>
    obtain ⟨p, ps, dss, e1, e2, e3, e4, e5, e6, e7⟩ := h
    rw [e3] at ha
    rcases List.mem_cons.mp ha with z | z
    · subst z; exact ⟨e4, _, e5⟩
    · obtain ⟨j, hj⟩ := List.mem_iff_getElem?.mp z
      have hl : j < dss.length := by rw [← e6]; exact (List.getElem?_eq_some_iff.mp hj).1
      obtain ⟨z1, vs, z2, _⟩ := e7 j a _ hj (List.getElem?_eq_getElem hl)
      exact ⟨z1, _, z2⟩
  | dk =>
    obtain ⟨p, vs, ds, e1, e2, e3, e4, e5, e6⟩ := h
    rw [e3] at ha
    have : a = p := by simpa using ha
    subst this
    exact ⟨e4, _, e5⟩
  | dt =>
    obtain ⟨p, vs, ds, e1, e2, e3, e4, e5, e6⟩ := h
    rw [e3] at ha
    have : a = p := by simpa using ha
    subst this
    exact ⟨e4, _, e5⟩
  | ob p =>
    obtain ⟨dx, C, c, fs, ds, e1, e2, e3, e4, e5, e6, e7, e8, e9⟩ := h
    rw [e3] at ha
    have : a = p ∨ a = dx := by simpa using ha
    rcases this with rfl | rfl
    · exact ⟨e4, _, e7⟩
    · exact ⟨e5, _, e8⟩
/-- another object is written -/
theorem OwnAt.other {p : Addr} {o : HO} (hp : S p = none) (hf : p ∉ fp) (h : OwnAt K mg S H fp v d md) : OwnAt K mg S (upd H p o) fp v d md := by
  cases md with
  | owq q0 =>
    obtain ⟨e0, q, vs, ds, e1, e2, e3, e4, e5, e6⟩ := h
    refine ⟨e0, q, vs, ds, e1, e2, e3, e4, ?_, e6⟩
    rw [upd_ne (fun z => hf (by rw [e3, z]; exact List.mem_cons_self))]
    exact e5
  | tr n b at_ =>
    cases b with
    | none => exact ⟨h.1, h.2.other hp hf⟩
    | some kq => exact ⟨h.1, h.2.other hp hf⟩
  | ex a0 b0 c0 => exact h
  | sh => exact h
  | ow =>
    obtain ⟨q, vs, ds, e1, e2, e3, e4, e5, e6⟩ := h
    refine ⟨q, vs, ds, e1, e2, e3, e4, ?_, e6⟩
    rw [upd_ne (fun z => hf (by rw [e3, z]; exact List.mem_cons_self))]
    exact e5
  | ow2 =>
    obtain ⟨q, ps, dss, e1, e2, e3, e4, e5, e6, e7⟩ := h
    refine ⟨q, ps, dss, e1, e2, e3, e4, ?_, e6, fun j r ds x y => ?_⟩
    · rw [upd_ne (fun z => hf (by rw [e3, z]; exact List.mem_cons_self))]
      exact e5
    · obtain ⟨z1, vs, z2, z3⟩ := e7 j r ds x y
      refine ⟨z1, vs, ?_, z3⟩
      rw [upd_ne (fun z => hf (by rw [e3, ← z]; exact List.mem_cons_of_mem _ (List.mem_of_getElem? x)))]
      exact z2
  | dk =>
    obtain ⟨q, vs, ds, e1, e2, e3, e4, e5, e6⟩ := h
    refine ⟨q, vs, ds, e1, e2, e3, e4, ?_, e6⟩
    rw [upd_ne (fun z => hf (by rw [e3, z]; exact List.mem_cons_self))]
    exact e5
  | dt =>
    obtain ⟨q, vs, ds, e1, e2, e3, e4, e5, e6⟩ := h
    refine ⟨q, vs, ds, e1, e2, e3, e4, ?_, e6⟩
    rw [upd_ne (fun z => hf (by rw [e3, z]; exact List.mem_cons_self))]
    exact e5
  | ob q =>
    obtain ⟨dx, C, c, fs, ds, e1, e2, e3, e4, e5, e6, e7, e8, e9⟩ := h
    refine ⟨dx, C, c, fs, ds, e1, e2, e3, e4, e5, e6, ?_, ?_, e9⟩
    · rw [upd_ne (fun z => hf (by rw [e3, z]; exact List.mem_cons_self))]
      exact e7
    · rw [upd_ne (fun z => hf (by rw [e3, z]; exact List.mem_cons_of_mem _ List.mem_cons_self))]
      exact e8
end
/-- the data of the slots; none: nothing is known of the slot -/
abbrev Env := List (Option D)
abbrev Mds := List Md
def mdAt (m : Mds) (i : Nat) : Md := m.getD i .sh
/-- the slots σ hold the data ρ, each by its mode, standing at F -/
structure EnvF (K : PySem.W.Frag) (mg : Str → Option Value) (m : Mds) (F : Nat → List Addr) (S H : Hp) (σ : St) (ρ : Env) : Prop where
  len : ρ.length = σ.length
  at_ : ∀ i d, ρ[i]? = some (some d) → ∃ v, σ[i]? = some (some v) ∧ OwnAt K mg S H (F i) v d (mdAt m i)
  nd : ∀ i d, ρ[i]? = some (some d) → (F i).Nodup
  apart : ∀ i j d e, i ≠ j → ρ[i]? = some (some d) → ρ[j]? = some (some e) → ∀ a, a ∈ F i → a ∉ F j
def EnvM (K : PySem.W.Frag) (mg : Str → Option Value) (m : Mds) (S H : Hp) (σ : St) (ρ : Env) : Prop := Same S H ∧ ∃ F, EnvF K mg m F S H σ ρ
section
variable {K : PySem.W.Frag} {mg : Str → Option Value} {m : Mds} {F : Nat → List Addr} {S S' H H' : Hp} {σ : St} {ρ : Env}
theorem EnvF.step (a : Step S H S' H') (h : EnvF K mg m F S H σ ρ) : EnvF K mg m F S' H' σ ρ :=
  ⟨h.len, fun i d e => by
    obtain ⟨v, e1, e2⟩ := h.at_ i d e
    exact ⟨v, e1, e2.step a⟩, h.nd, h.apart⟩
theorem EnvM.step (a : Step S H S' H') (h : EnvM K mg m S H σ ρ) : EnvM K mg m S' H' σ ρ := by
  obtain ⟨_, F, h⟩ := h
  exact ⟨a.sub, F, h.step a⟩
end
end Da
namespace Da
open PySem PySem.Spec L2
section
variable {K : PySem.W.Frag} {mg : Str → Option Value} {E : XK} {S S' H H' : Hp}
/-- an own exception: its class, its own dict -/
def ExcAt (K : PySem.W.Frag) (mg : Str → Option Value) (S H : Hp) (cls : Value) (dd : Option Addr) (c : Str) (fs : List (Str × D)) : Prop :=
  mg c = some cls ∧ ((fs = [] ∧ dd = none) ∨ ∃ a vfs, dd = some a ∧ S a = some (.xd vfs) ∧ vfs.map (·.1) = fs.map (·.1) ∧ RepL K mg S (vfs.map (·.2)) (fs.map (·.2)))
/-- what is wanted of a run's end -/
def PostW {α : Type} (K : PySem.W.Frag) (mg : Str → Option Value) (E : XK) (S H : Hp) (r : Res α) (k : α → Hp → Hp → Prop) : Prop := match r with
  | .ok a => ∀ S' H', Step S H S' H' → k a S' H'
  | .ex c fs => ∀ S' H' cls dd, Step S H S' H' → ExcAt K mg S' H' cls dd c fs → E cls dd H'
  | .er => False
/-- .. of a value's -/
def Post (K : PySem.W.Frag) (mg : Str → Option Value) (E : XK) (S H : Hp) (md : Md) (r : Res D) (Q : VK) : Prop := match r with
  | .ok d => ∀ v S' H' fp, Step S H S' H' → OwnAt K mg S' H' fp v d md → fp.Nodup → (∀ a ∈ fp, H a = none) → Q v H'
  | .ex c fs => ∀ S' H' cls dd, Step S H S' H' → ExcAt K mg S' H' cls dd c fs → E cls dd H'
  | .er => False
theorem PostW.step {α : Type} {r : Res α} {k : α → Hp → Hp → Prop} (st : Step S H S' H') (h : PostW K mg E S H r k) : PostW K mg E S' H' r k := by
  cases r with
  | ok a => exact fun S2 H2 s2 => h S2 H2 (st.trans s2)
  | ex c fs => exact fun S2 H2 cls dd s2 => h S2 H2 cls dd (st.trans s2)
  | er => exact h
theorem Post.step {md : Md} {r : Res D} {Q : VK} (st : Step S H S' H') (h : Post K mg E S H md r Q) : Post K mg E S' H' md r Q := by
  cases r with
  | ok a => exact fun v S2 H2 fp s2 o n f => h v S2 H2 fp (st.trans s2) o n fun a ha => st.hh.free (f a ha)
  | ex c fs => exact fun S2 H2 cls dd s2 => h S2 H2 cls dd (st.trans s2)
  | er => exact h
theorem Post.bind {α : Type} {md : Md} {r : Res α} {f : α → Res D} {Q : VK} (h : Post K mg E S H md (r.bind f) Q) : PostW K mg E S H r fun a S1 H1 => Post K mg E S1 H1 md (f a) Q := by
  cases r with
  | ok a => exact fun S2 H2 s2 => Post.step s2 h
  | ex c fs => exact h
  | er => exact h
theorem PostW.bind {α β : Type} {r : Res α} {f : α → Res β} {k : β → Hp → Hp → Prop} (h : PostW K mg E S H (r.bind f) k) : PostW K mg E S H r fun a S1 H1 => PostW K mg E S1 H1 (f a) k := by
  cases r with
  | ok a => exact fun S2 H2 s2 => PostW.step s2 h
  | ex c fs => exact h
  | er => exact h
theorem PostW.imp {α : Type} {r : Res α} {k k' : α → Hp → Hp → Prop} (h : PostW K mg E S H r k) (g : ∀ a S' H', Step S H S' H' → k a S' H' → k' a S' H') : PostW K mg E S H r k' := by
  cases r with
  | ok a => exact fun S2 H2 s2 => g a S2 H2 s2 (h S2 H2 s2)
  | ex c fs => exact h
  | er => exact h
/-- a shared value is handed on -/
theorem PostW.post {r : Res D} {k : D → Hp → Hp → Prop} {Q : VK} (h : PostW K mg E S H r k) (g : ∀ d v S' H', Step S H S' H' → Rep K mg S' v d → k d S' H' → Q v H') : Post K mg E S H .sh r Q := by
  cases r with
  | ok a => exact fun v S2 H2 fp s2 o n f => g a v S2 H2 s2 o.1 (h S2 H2 s2)
  | ex c fs => exact h
  | er => exact h
theorem PostW.postM {md : Md} {r : Res D} {k : D → Hp → Hp → Prop} {Q : VK} (h : PostW K mg E S H r k) (g : ∀ d v S' H' fp, Step S H S' H' → OwnAt K mg S' H' fp v d md → fp.Nodup → (∀ a ∈ fp, H a = none) → k d S' H' → Q v H') : Post K mg E S H md r Q := by
  cases r with
  | ok a => exact fun v S2 H2 fp s2 o n f => g a v S2 H2 fp s2 o n f (h S2 H2 s2)
  | ex c fs => exact h
  | er => exact h
/-- a shared value that stands already -/
theorem Post.val {d : D} {v : V} {Q : VK} (h : Post K mg E S H .sh (.ok d) Q) (hs : Same S H) (r : Rep K mg S v d) : Q v H := h v S H [] (Step.refl hs) ⟨r, rfl⟩ List.nodup_nil (fun a z => nomatch z)
/-- a new list, a new tuple -/
theorem Post.lst {ds : List D} {vs : List V} {p : Addr} {Q : VK} (h : Post K mg E S H .sh (.ok (.lst ds)) Q) (hs : Same S H) (r : RepL K mg S vs ds) (hp : H p = none) : Q (.ref p) (upd H p (.lst vs)) :=
  h _ _ _ [] (Step.laid hs hp) ⟨Rep.lstL upd_same (r.mono (Step.laid hs hp).ss), rfl⟩ List.nodup_nil (fun a z => nomatch z)
theorem Post.tup {ds : List D} {vs : List V} {p : Addr} {Q : VK} (h : Post K mg E S H .sh (.ok (.tup ds)) Q) (hs : Same S H) (r : RepL K mg S vs ds) (hp : H p = none) : Q (.ref p) (upd H p (.tup vs)) :=
  h _ _ _ [] (Step.laid hs hp) ⟨Rep.tupL upd_same (r.mono (Step.laid hs hp).ss), rfl⟩ List.nodup_nil (fun a z => nomatch z)
/-- a new list that is one's own -/
theorem Post.own {ds : List D} {vs : List V} {p : Addr} {Q : VK} (h : Post K mg E S H .ow (.ok (.lst ds)) Q) (hs : Same S H) (r : RepL K mg S vs ds) (hp : H p = none) : Q (.ref p) (upd H p (.lst vs)) :=
  h _ S _ [p] (Step.hid hs hp) ⟨p, vs, ds, rfl, rfl, rfl, hs.free hp, upd_same, r⟩ (by simp) (fun a z => by
    have : a = p := by simpa using z
    rw [this]; exact hp)
/-- a list, kept or shared -/
theorem Post.list {md : Md} (hmd : md = .sh ∨ md = .ow) {ds : List D} {vs : List V} {p : Addr} {Q : VK} (h : Post K mg E S H md (.ok (.lst ds)) Q) (hs : Same S H) (r : RepL K mg S vs ds) (hp : H p = none) : Q (.ref p) (upd H p (.lst vs)) := by
  rcases hmd with rfl | rfl
  · exact h.lst hs r hp
  · exact h.own hs r hp
end
def tE (K : PySem.W.Frag) (mg : Str → Option Value) (E : WX) (m : Mds) (md : Md) (f : Env → Res D) : TE := fun σ H Q => ∃ S ρ, EnvM K mg m S H σ ρ ∧ Post K mg (WE E σ) S H md (f ρ) Q
def tT (K : PySem.W.Frag) (mg : Str → Option Value) (E : WX) (m : Mds) (f : Env → Res Bool) : TT := fun σ H Q => ∃ S ρ, EnvM K mg m S H σ ρ ∧ PostW K mg (WE E σ) S H (f ρ) fun b _ H' => Q b H'
def tA (K : PySem.W.Frag) (mg : Str → Option Value) (E : WX) (m : Mds) (f : Env → Res (List D)) : TA := fun σ H Q => ∃ S ρ, EnvM K mg m S H σ ρ ∧ PostW K mg (WE E σ) S H (f ρ) fun ds S' H' => ∀ vs, RepL K mg S' vs ds → Q vs H'
structure JE (X : Cx) (E : WX) (m : Mds) (md : Md) (e : Expr) (f : Env → Res D) : Prop where
  pe : PE X e (tE X.K X.mg E m md f)
structure JT (X : Cx) (E : WX) (m : Mds) (e : Expr) (f : Env → Res Bool) : Prop where
  pt : PT X e (tT X.K X.mg E m f)
structure JW (X : Cx) (E : WX) (m : Mds) (e : Expr) (f : Env → Res Bool) : Prop where
  pw : PW X e (tT X.K X.mg E m f)
structure JA (X : Cx) (E : WX) (m : Mds) (es : List Expr) (f : Env → Res (List D)) : Prop where
  pa : PA X es (tA X.K X.mg E m f)
section
variable {X : Cx} {e : Expr} {es : List Expr}
theorem PEimp {t t' : TE} (h : PE X e t) (g : ∀ σ H Q, t' σ H Q → t σ H Q) : PE X e t' := ⟨fun pins s σ H Q I q => h.run pins s σ H Q I (g σ H Q q)⟩
theorem PTimp {t t' : TT} (h : PT X e t) (g : ∀ σ H Q, t' σ H Q → t σ H Q) : PT X e t' := ⟨fun pins s σ H Q I q => h.run pins s σ H Q I (g σ H Q q)⟩
theorem PWimp {t t' : TT} (h : PW X e t) (g : ∀ σ H Q, t' σ H Q → t σ H Q) : PW X e t' := ⟨fun wh pins s σ H Q I q => h.run wh pins s σ H Q I (g σ H Q q)⟩
theorem PAimp {t t' : TA} (h : PA X es t) (g : ∀ σ H Q, t' σ H Q → t σ H Q) : PA X es t' := ⟨fun pos pins s σ H Q I q => h.run pos pins s σ H Q I (g σ H Q q)⟩
end
def fC (d : D) : Env → Res D := fun _ => .ok d
def fV (i : Nat) : Env → Res D := fun ρ => match ρ[i]? with
  | some (some d) => .ok d
  | _ => .er
def f1 (g : D → Res D) (fa : Env → Res D) : Env → Res D := fun ρ => (fa ρ).bind g
def f2 (g : D → D → Res D) (fa fb : Env → Res D) : Env → Res D := fun ρ => (fa ρ).bind fun x => (fb ρ).bind fun y => g x y
def fA0 : Env → Res (List D) := fun _ => .ok []
def fA (fa : Env → Res D) (fr : Env → Res (List D)) : Env → Res (List D) := fun ρ => (fa ρ).bind fun x => (fr ρ).bind fun xs => .ok (x :: xs)
def fOn (g : List D → Res D) (fa : Env → Res (List D)) : Env → Res D := fun ρ => (fa ρ).bind g
def asB : D → Res Bool
  | .bl b => .ok b
  | _ => .er
/-- an operation on values does what g says -/
def OpD (K : PySem.W.Frag) (mg : Str → Option Value) (md : Md) (r : R2) (g : D → D → Res D) : Prop :=
  ∀ (E : XK) (S H : Hp) (x y : V) (dx dy : D) (Q : VK), Same S H → Rep K mg S x dx → Rep K mg S y dy → Post K mg E S H md (g dx dy) Q → r x y H Q
def UnD (K : PySem.W.Frag) (mg : Str → Option Value) (md : Md) (r : V → Hp → VK → Prop) (g : D → Res D) : Prop :=
  ∀ (E : XK) (S H : Hp) (x : V) (dx : D) (Q : VK), Same S H → Rep K mg S x dx → Post K mg E S H md (g dx) Q → r x H Q
def CallD (K : PySem.W.Frag) (mg : Str → Option Value) (md : Md) (r : List V → Hp → VK → Prop) (g : List D → Res D) : Prop :=
  ∀ (E : XK) (S H : Hp) (xs : List V) (ds : List D) (Q : VK), Same S H → RepL K mg S xs ds → Post K mg E S H md (g ds) Q → r xs H Q
section
variable {X : Cx} {E : WX} {m : Mds} {md : Md} {a b : Expr} {es : List Expr} {fa fb : Env → Res D} {pos : Pos}
theorem two {t : R2} {g : D → D → Res D} {K : PySem.W.Frag} {mg : Str → Option Value} (hr : OpD K mg md t g) {σ : L2.St} {H : Hp} {Q : VK} (h : tE K mg E m md (f2 g fa fb) σ H Q) : tOp t (tE K mg E m .sh fa) (tE K mg E m .sh fb) σ H Q := by
  obtain ⟨S, ρ, hm, hp⟩ := h
  refine ⟨S, ρ, hm, (Post.bind hp).post fun dx v S1 H1 s1 r1 h1 => ?_⟩
  exact ⟨S1, ρ, hm.step s1, (Post.bind h1).post fun dy w S2 H2 s2 r2 h2 => hr _ S2 H2 v w dx dy Q s2.sub (r1.mono s2.ss) r2 h2⟩
theorem one {t : V → Hp → VK → Prop} {g : D → Res D} {K : PySem.W.Frag} {mg : Str → Option Value} (hr : UnD K mg md t g) {σ : L2.St} {H : Hp} {Q : VK} (h : tE K mg E m md (f1 g fa) σ H Q) : tUn t (tE K mg E m .sh fa) σ H Q := by
  obtain ⟨S, ρ, hm, hp⟩ := h
  exact ⟨S, ρ, hm, (Post.bind hp).post fun dx v S1 H1 s1 r1 h1 => hr _ S1 H1 v dx Q s1.sub r1 h1⟩
theorem je_op {op : Operator} {r : R2} {g : D → D → Res D} (ho : OpR X (binaryOp op) r) (hr : OpD X.K X.mg md r g) (ha : JE X E m .sh a fa) (hb : JE X E m .sh b fb) : JE X E m md (.BinOp a op b pos) (f2 g fa fb) :=
  ⟨PEimp (pe_op ho ha.pe hb.pe) fun σ H Q h => two hr h⟩
theorem je_un {op : UnaryOp} {r : V → Hp → VK → Prop} {g : D → Res D} (ho : UnR X (unaryOp op) r) (hr : UnD X.K X.mg md r g) (ha : JE X E m .sh a fa) : JE X E m md (.UnaryOp op a pos) (f1 g fa) :=
  ⟨PEimp (pe_un ho ha.pe) fun σ H Q h => one hr h⟩
theorem je_cmp {op : CmpOp} {r : R2} {g : D → D → Res D} (ho : OpR X (compareOp op) r) (hr : OpD X.K X.mg .sh r g) (ha : JE X E m .sh a fa) (hb : JE X E m .sh b fb) (hm : behindInMarks op b = false := by rfl) : JE X E m .sh (.Compare a [op] [b] pos) (f2 g fa fb) :=
  ⟨PEimp (pe_cmpR ho ha.pe hb.pe hm) fun σ H Q h => two hr h⟩
theorem je_ix {r : R2} {g : D → D → Res D} (ho : IxR X r) (hr : OpD X.K X.mg .sh r g) (ha : JE X E m .sh a fa) (hb : JE X E m .sh b fb) (hs : PlainIx b := by intro _ _; rfl) : JE X E m .sh (.Subscript a b pos) (f2 g fa fb) :=
  ⟨PEimp (pe_ix ho ha.pe hb.pe hs) fun σ H Q h => two hr h⟩
/-- a value that is a bool, as a test -/
def fB (f : Env → Res D) : Env → Res Bool := fun ρ => (f ρ).bind asB
theorem jt_cmp {op : CmpOp} {r : R2} {g : D → D → Res D} (ho : OpR X (compareOp op) r) (hr : OpD X.K X.mg .sh r g) (ha : JE X E m .sh a fa) (hb : JE X E m .sh b fb) (hm : behindInMarks op b = false := by rfl) : JT X E m (.Compare a [op] [b] pos) (fB (f2 g fa fb)) := by
  refine ⟨PTimp (pt_cmpR ho ha.pe hb.pe hm) fun σ H Q h => ?_⟩
  obtain ⟨S, ρ, hm, hp⟩ := h
  have k : tE X.K X.mg E m .sh (f2 g fa fb) σ H fun x H' => ∃ k, x = .bl k ∧ Q k H' := by
    refine ⟨S, ρ, hm, (PostW.bind hp).post fun d v S1 H1 s1 r1 h1 => ?_⟩
    cases d with
    | bl c =>
      cases r1
      exact ⟨c, rfl, h1 S1 H1 (Step.refl s1.sub)⟩
    | _ => exact h1.elim
  exact two hr k
theorem je_int {i : Int} {j} : JE X E m .sh (.Constant (.int i) j pos) (fC (.int i)) := ⟨PEimp pe_int fun σ H Q h => by obtain ⟨S, ρ, hm, hp⟩ := h; exact Post.val hp hm.1 (.int i)⟩
theorem je_bl {i : Bool} {j} : JE X E m .sh (.Constant (.bool i) j pos) (fC (.bl i)) := ⟨PEimp pe_bl fun σ H Q h => by obtain ⟨S, ρ, hm, hp⟩ := h; exact Post.val hp hm.1 (.bl i)⟩
theorem je_non {j} : JE X E m .sh (.Constant .none j pos) (fC .non) := ⟨PEimp pe_non fun σ H Q h => by obtain ⟨S, ρ, hm, hp⟩ := h; exact Post.val hp hm.1 .non⟩
/-- a name whose data are shared -/
theorem je_var (i : Nat) {x : Str} (hmd : mdAt m i = .sh := by rfl) (hN : X.N[i]? = some x := by rfl) (hv : Vis X.env.scope x := by first | exact Or.inl rfl | exact Or.inr (Or.inl rfl) | exact Or.inr (Or.inr rfl)) (hd : (x == ("__debug__" : Str)) = false := by decide)
    (hcd : (x == ("__classdict__" : Str)) = false := by decide) : JE X E m .sh (.Name x pos) (fV i) := by
  refine ⟨PEimp (pe_var hN hv hd hcd) fun σ H Q h => ?_⟩
  obtain ⟨S, ρ, ⟨hs, F, hm⟩, hp⟩ := h
  unfold fV at hp
  split at hp
  · rename_i d e
    obtain ⟨v, e1, e2⟩ := hm.at_ i d e
    rw [hmd] at e2
    exact ⟨v, e1, hp.val hs e2.1⟩
  · exact hp.elim
theorem ja_nil : JA X E m [] fA0 := ⟨PAimp pa_nil fun σ H Q h => by obtain ⟨S, ρ, hm, hp⟩ := h; exact hp S H (Step.refl hm.1) [] .nil⟩
theorem ja_cons {fr : Env → Res (List D)} (ha : JE X E m .sh a fa) (hr : JA X E m es fr) (hs : starEach (a :: es) X.env = (false, eval a X.env) :: starEach es X.env := by rfl) : JA X E m (a :: es) (fA fa fr) := by
  refine ⟨PAimp (pa_cons ha.pe hr.pa hs) fun σ H Q h => ?_⟩
  obtain ⟨S, ρ, hm, hp⟩ := h
  refine ⟨S, ρ, hm, (PostW.bind hp).post fun d v S1 H1 s1 r1 h1 => ?_⟩
  refine ⟨S1, ρ, hm.step s1, (PostW.bind h1).imp fun ds S2 H2 s2 h2 vs rs => ?_⟩
  exact h2 S2 H2 (Step.refl s2.sub) (v :: vs) (.cons (r1.mono s2.ss) rs)
def gTupD (ds : List D) : Res D := if ds.length ≤ 100000 then .ok (.tup ds) else .er
def gLstD (ds : List D) : Res D := if ds.length ≤ 100000 then .ok (.lst ds) else .er
theorem small5 {n : Nat} (h : n ≤ 100000) : n ≤ sizeLine := by rw [sizeLine_eq]; omega
theorem je_tup {fr : Env → Res (List D)} {x1} (h : JA X E m es fr) : JE X E m .sh (.Tuple es x1 pos) (fOn gTupD fr) := by
  refine ⟨PEimp (pe_tup h.pa) fun σ H Q h => ?_⟩
  obtain ⟨S, ρ, hm, hp⟩ := h
  refine ⟨S, ρ, hm, (Post.bind hp).imp fun ds S1 H1 s1 h1 vs rs => ?_⟩
  unfold gTupD at h1
  split at h1
  · rename_i hz
    exact ⟨by rw [rs.len]; exact small5 hz, fun p hp => h1.tup s1.sub rs hp⟩
  · exact h1.elim
theorem je_lst {fr : Env → Res (List D)} (h : JA X E m es fr) (hmd : md = .sh ∨ md = .ow := by first | exact .inl rfl | exact .inr rfl) : JE X E m md (.List es pos) (fOn gLstD fr) := by
  refine ⟨PEimp (pe_lst h.pa) fun σ H Q h => ?_⟩
  obtain ⟨S, ρ, hm, hp⟩ := h
  refine ⟨S, ρ, hm, (Post.bind hp).imp fun ds S1 H1 s1 h1 vs rs => ?_⟩
  unfold gLstD at h1
  split at h1
  · rename_i hz
    exact ⟨by rw [rs.len]; exact small5 hz, fun p hp => h1.list hmd s1.sub rs hp⟩
  · exact h1.elim
def fAnd (fa fb : Env → Res Bool) : Env → Res Bool := fun ρ => (fa ρ).bind fun c => if c = true then fb ρ else .ok false
def fOr (fa fb : Env → Res Bool) : Env → Res Bool := fun ρ => (fa ρ).bind fun c => if c = true then .ok true else fb ρ
def fNot (fa : Env → Res Bool) : Env → Res Bool := fun ρ => (fa ρ).bind fun c => .ok (!c)
def fIf (fc : Env → Res Bool) (fa fb : Env → Res D) : Env → Res D := fun ρ => (fc ρ).bind fun c => if c = true then fa ρ else fb ρ
variable {ga gb gc : Env → Res Bool} {c : Expr} {rest : List Expr}
theorem JW.jt (h : JW X E m a ga) : JT X E m a ga := ⟨h.pw.pt⟩
theorem jw_and1 (ha : JT X E m a ga) : JW X E m (.BoolOp .And [a] pos) ga := ⟨pw_and1 ha.pt⟩
theorem jw_or1 (ha : JT X E m a ga) : JW X E m (.BoolOp .Or [a] pos) ga := ⟨pw_or1 ha.pt⟩
theorem and_ok {K : PySem.W.Frag} {mg : Str → Option Value} {σ : L2.St} {H : Hp} {Q : Bool → Hp → Prop} (h : tT K mg E m (fAnd ga gb) σ H Q) : tAnd (tT K mg E m ga) (tT K mg E m gb) σ H Q := by
  obtain ⟨S, ρ, hm, hp⟩ := h
  refine ⟨S, ρ, hm, (PostW.bind hp).imp fun d S1 H1 s1 h1 => ?_⟩
  cases d with
  | true => exact ⟨S1, ρ, hm.step s1, h1⟩
  | false => exact h1 S1 H1 (Step.refl s1.sub)
theorem or_ok {K : PySem.W.Frag} {mg : Str → Option Value} {σ : L2.St} {H : Hp} {Q : Bool → Hp → Prop} (h : tT K mg E m (fOr ga gb) σ H Q) : tOr (tT K mg E m ga) (tT K mg E m gb) σ H Q := by
  obtain ⟨S, ρ, hm, hp⟩ := h
  refine ⟨S, ρ, hm, (PostW.bind hp).imp fun d S1 H1 s1 h1 => ?_⟩
  cases d with
  | false => exact ⟨S1, ρ, hm.step s1, h1⟩
  | true => exact h1 S1 H1 (Step.refl s1.sub)
theorem jw_and (ha : JT X E m a ga) (hb : JW X E m (.BoolOp .And (b :: rest) pos) gb) : JW X E m (.BoolOp .And (a :: b :: rest) pos) (fAnd ga gb) :=
  ⟨PWimp (pw_and ha.pt hb.pw) fun σ H Q h => and_ok h⟩
theorem jw_or (ha : JT X E m a ga) (hb : JW X E m (.BoolOp .Or (b :: rest) pos) gb) : JW X E m (.BoolOp .Or (a :: b :: rest) pos) (fOr ga gb) :=
  ⟨PWimp (pw_or ha.pt hb.pw) fun σ H Q h => or_ok h⟩
theorem jt_not (ha : JT X E m a ga) : JT X E m (.UnaryOp .Not a pos) (fNot ga) := by
  refine ⟨PTimp (pt_not ha.pt) fun σ H Q h => ?_⟩
  obtain ⟨S, ρ, hm, hp⟩ := h
  exact ⟨S, ρ, hm, (PostW.bind hp).imp fun d S1 H1 s1 h1 => h1 S1 H1 (Step.refl s1.sub)⟩
/-- as values: all are bools -/
def fBv (f : Env → Res Bool) : Env → Res D := fun ρ => (f ρ).bind fun b => .ok (.bl b)
theorem je_and (ha : JE X E m .sh a fa) (hb : JE X E m .sh (.BoolOp .And (b :: rest) pos) (fBv gb)) : JE X E m .sh (.BoolOp .And (a :: b :: rest) pos) (fBv (fAnd (fB fa) gb)) := by
  refine ⟨PEimp (pe_and ha.pe hb.pe) fun σ H Q h => ?_⟩
  obtain ⟨S, ρ, hm, hp⟩ := h
  refine ⟨S, ρ, hm, (PostW.bind (PostW.bind (Post.bind hp))).post fun d v S1 H1 s1 r1 h1 => ?_⟩
  cases d with
  | bl c =>
    cases r1
    refine ⟨c, rfl, ?_⟩
    have h1 := h1 S1 H1 (Step.refl s1.sub)
    cases c with
    | true =>
      refine ⟨S1, ρ, hm.step s1, ?_⟩
      show Post _ _ _ _ _ _ ((gb ρ).bind _) Q
      revert h1
      show PostW _ _ _ _ _ (gb ρ) _ → _
      cases gb ρ with
      | ok x => exact fun h1 => h1 S1 H1 (Step.refl s1.sub)
      | ex c fs => exact fun h1 => h1
      | er => exact fun h1 => h1
    | false =>
      have h2 := h1 S1 H1 (Step.refl s1.sub)
      exact Post.val h2 s1.sub (.bl false)
  | _ => exact h1.elim
/-- the last one -/
theorem je_last {op} (ha : JE X E m .sh a fa) : JE X E m .sh (.BoolOp op [a] pos) (fBv (fB fa)) := by
  refine ⟨PEimp (pe_one ha.pe) fun σ H Q h => ?_⟩
  obtain ⟨S, ρ, hm, hp⟩ := h
  refine ⟨S, ρ, hm, (PostW.bind (Post.bind hp)).post fun d v S1 H1 s1 r1 h1 => ?_⟩
  cases d with
  | bl c => exact Post.val (h1 S1 H1 (Step.refl s1.sub)) s1.sub r1
  | _ => exact h1.elim
theorem je_not (ha : JE X E m .sh a fa) : JE X E m .sh (.UnaryOp .Not a pos) (fBv (fNot (fB fa))) := by
  refine ⟨PEimp (pe_not ha.pe) fun σ H Q h => ?_⟩
  obtain ⟨S, ρ, hm, hp⟩ := h
  refine ⟨S, ρ, hm, (PostW.bind (PostW.bind (Post.bind hp))).post fun d v S1 H1 s1 r1 h1 => ?_⟩
  cases d with
  | bl c =>
    cases r1
    exact ⟨c, rfl, Post.val (h1 S1 H1 (Step.refl s1.sub) S1 H1 (Step.refl s1.sub)) s1.sub (.bl _)⟩
  | _ => exact h1.elim
end
end Da
namespace Da
open PySem PySem.Spec L2
def dI (c : Int → Int → Bool) (g : Int → Int → Int) : D → D → Res D
  | .int i, .int j => if c i j = true then .ok (.int (g i j)) else .er
  | _, _ => .er
def dP (p : Int → Int → Bool) : D → D → Res D
  | .int i, .int j => .ok (.bl (p i j))
  | _, _ => .er
def yes2 (_ _ : Int) : Bool := true
def mulOk (i j : Int) : Bool := stuck (i.natAbs.log2 + j.natAbs.log2 < 1000000)
theorem mulOk_yes {i j : Int} (h : i.natAbs.log2 + j.natAbs.log2 < 1000000) : mulOk i j = true := stuck_iff.mpr h
theorem mulOk_lt {i j : Int} (h : mulOk i j = true) : i.natAbs.log2 + j.natAbs.log2 < 1000000 := stuck_iff.mp h
def divOk (_ j : Int) : Bool := stuck (j ≠ 0 ∧ j.natAbs.log2 < 9000)
def modOk (_ j : Int) : Bool := decide (j ≠ 0)
def powOk (i j : Int) : Bool := stuck (0 ≤ j ∧ j ≤ 1000000 ∧ i.natAbs < 18446744073709551616)
section
variable {K : PySem.W.Frag} {mg : Str → Option Value} {E : XK} {S S' H H' : Hp}
theorem opd_I {C : Int → Int → Prop} {g : Int → Int → Int} {c : Int → Int → Bool} (hc : ∀ i j, c i j = true → C i j) : OpD K mg .sh (rI C fun i j => .int (g i j)) (dI c g) := by
  intro E S H x y dx dy Q hs rx ry h
  cases dx with
  | int i =>
    cases dy with
    | int j =>
      simp only [dI] at h
      split at h
      · rename_i hcc
        cases rx; cases ry
        exact ⟨i, j, rfl, rfl, hc i j hcc, h.val hs (.int _)⟩
      · exact h.elim
    | _ => exact h.elim
  | _ => exact h.elim
theorem opd_I0 {g : Int → Int → Int} : OpD K mg .sh (rI0 fun i j => .int (g i j)) (dI yes2 g) := by
  intro E S H x y dx dy Q hs rx ry h
  cases dx with
  | int i =>
    cases dy with
    | int j =>
      cases rx; cases ry
      exact ⟨i, j, rfl, rfl, Post.val h hs (.int _)⟩
    | _ => exact h.elim
  | _ => exact h.elim
theorem opd_P {p : Int → Int → Bool} : OpD K mg .sh (rI0 fun i j => .bl (p i j)) (dP p) := by
  intro E S H x y dx dy Q hs rx ry h
  cases dx with
  | int i =>
    cases dy with
    | int j =>
      cases rx; cases ry
      exact ⟨i, j, rfl, rfl, Post.val h hs (.bl _)⟩
    | _ => exact h.elim
  | _ => exact h.elim
end
section
variable {X : Cx}
def CDivX (_ j : Int) : Prop := j ≠ 0 ∧ j.natAbs.log2 < 9000
theorem op_fdivX : OpR X (binaryOp .FloorDiv) (rI CDivX fun i j => .int (i.fdiv j)) :=
  opI fun _ _ _ _ _ _ _ hc q => PyProof.Rows.floordiv_int hc.1 q (.inl (PyProof.noPylong_of_log2 hc.2))
end
section
variable {X : Cx} {E : WX} {m : Mds} {md : Md} {a b : Expr} {es : List Expr} {fa fb : Env → Res D} {pos : Pos}
def dSub := dI yes2 (fun i j => i - j)
def dMul := dI mulOk (fun i j => i * j)
def dDiv := dI divOk (fun i j => i.fdiv j)
def dMod := dI modOk (fun i j => i.fmod j)
def dPow := dI powOk (fun i j => i ^ j.toNat)
def dLt := dP (fun i j => decide (i < j))
def dLe := dP (fun i j => decide (i ≤ j))
def dGt := dP (fun i j => decide (j < i))
def dGe := dP (fun i j => decide (j ≤ i))
theorem je_sub (ha : JE X E m .sh a fa) (hb : JE X E m .sh b fb) : JE X E m .sh (.BinOp a .Sub b pos) (f2 dSub fa fb) := je_op op_sub opd_I0 ha hb
theorem je_mulI (ha : JE X E m .sh a fa) (hb : JE X E m .sh b fb) : JE X E m .sh (.BinOp a .Mult b pos) (f2 dMul fa fb) := je_op op_mulW (opd_I fun i j h => mulOk_lt h) ha hb
theorem je_div (ha : JE X E m .sh a fa) (hb : JE X E m .sh b fb) : JE X E m .sh (.BinOp a .FloorDiv b pos) (f2 dDiv fa fb) := je_op op_fdivX (opd_I fun i j h => stuck_iff.mp h) ha hb
theorem je_mod (ha : JE X E m .sh a fa) (hb : JE X E m .sh b fb) : JE X E m .sh (.BinOp a .Mod b pos) (f2 dMod fa fb) := je_op op_modN (opd_I fun i j h => of_decide_eq_true h) ha hb
theorem powOk_ok {i j : Int} (h : powOk i j = true) : CPow i j := by
  obtain ⟨h1, h2, h3⟩ := stuck_iff.mp h
  exact ⟨h1, h2, by
    show i.natAbs < 2 ^ 64
    omega⟩
theorem je_pow (ha : JE X E m .sh a fa) (hb : JE X E m .sh b fb) : JE X E m .sh (.BinOp a .Pow b pos) (f2 dPow fa fb) := je_op op_pow (opd_I fun i j h => powOk_ok h) ha hb
def dNeg : D → Res D
  | .int i => .ok (.int (-i))
  | _ => .er
theorem je_neg (ha : JE X E m .sh a fa) : JE X E m .sh (.UnaryOp .USub a pos) (f1 dNeg fa) := je_un un_neg (fun E S H x dx Q hs rx h => by
  cases dx with
  | int i =>
    cases rx
    exact ⟨i, rfl, Post.val h hs (.int _)⟩
  | _ => exact h.elim) ha
theorem jt_lt (ha : JE X E m .sh a fa) (hb : JE X E m .sh b fb) : JT X E m (.Compare a [.Lt] [b] pos) (fB (f2 dLt fa fb)) := jt_cmp op_lt opd_P ha hb (nomark _)
theorem jt_gt (ha : JE X E m .sh a fa) (hb : JE X E m .sh b fb) : JT X E m (.Compare a [.Gt] [b] pos) (fB (f2 dGt fa fb)) := jt_cmp op_gt opd_P ha hb (nomark _)
theorem jt_ge (ha : JE X E m .sh a fa) (hb : JE X E m .sh b fb) : JT X E m (.Compare a [.GtE] [b] pos) (fB (f2 dGe fa fb)) := jt_cmp op_ge opd_P ha hb (nomark _)
theorem je_le (ha : JE X E m .sh a fa) (hb : JE X E m .sh b fb) : JE X E m .sh (.Compare a [.LtE] [b] pos) (f2 dLe fa fb) := je_cmp op_le opd_P ha hb (nomark _)
end
def szOk (n : Nat) : Bool := stuck (n ≤ 1000000)
theorem szOk_yes {n : Nat} (h : n ≤ 1000000) : szOk n = true := stuck_iff.mpr h
theorem szOk_le {n : Nat} (h : szOk n = true) : n ≤ 1000000 := stuck_iff.mp h
theorem szOk_ok {n : Nat} (h : szOk n = true) : n ≤ sizeLine := by
  have := szOk_le h
  rw [sizeLine_eq]; omega
def dAdd : D → D → Res D
  | .int i, .int j => .ok (.int (i + j))
  | .lst a, .lst b => if szOk (a.length + b.length) = true then .ok (.lst (a ++ b)) else .er
  | .tup a, .tup b => if szOk (a.length + b.length) = true then .ok (.tup (a ++ b)) else .er
  | .str a, .str b => if szOk (a.length + b.length) = true then .ok (.str (a ++ b)) else .er
  | _, _ => .er
def dAddL : D → D → Res D
  | .lst a, .lst b => if szOk (a.length + b.length) = true then .ok (.lst (a ++ b)) else .er
  | _, _ => .er
abbrev rStrAdd : R2 := fun x y H Q => ∃ i j, x = .str i ∧ y = .str j ∧ i.length + j.length ≤ sizeLine ∧ Q (.str (i ++ j)) H
def rAddAll (K : PySem.W.Frag) : R2 := fun x y H Q => ((rI0 fun i j => .int (i + j)) x y H Q ∨ rCat x y H Q) ∨ (rCatA K x y H Q ∨ rStrAdd x y H Q)
section
variable {K : PySem.W.Frag} {mg : Str → Option Value} {X : Cx} {E : WX} {m : Mds} {md : Md} {a b : Expr} {es : List Expr} {fa fb : Env → Res D} {pos : Pos}
theorem op_addAll : OpR X (binaryOp .Add) (rAddAll X.K) := OpR.or (OpR.or op_add op_cat) (OpR.or op_catA op_add_str)
theorem Post.of_if {md : Md} {E : XK} {S H : Hp} {r : Res D} {c : Bool} {Q : VK} (h : Post K mg E S H md (if c = true then r else .er) Q) : c = true ∧ Post K mg E S H md r Q := by
  split at h
  · rename_i hc; exact ⟨hc, h⟩
  · exact h.elim
theorem RepL.nil_iff {S : Hp} {vs : List V} {ds : List D} (r : RepL K mg S vs ds) : vs = [] ↔ ds = [] := by
  have := r.len
  constructor
  · intro h; subst h; exact List.eq_nil_of_length_eq_zero this.symm
  · intro h; subst h; exact List.eq_nil_of_length_eq_zero this
theorem catL {E : XK} {S H : Hp} {x y : V} {da db : List D} {Q : VK} (hmd : md = .sh ∨ md = .ow) (hs : Same S H) (rx : Rep K mg S x (.lst da)) (ry : Rep K mg S y (.lst db)) (h : Post K mg E S H md (if szOk (da.length + db.length) = true then .ok (.lst (da ++ db)) else .er) Q) : rCat x y H Q := by
  obtain ⟨hz, h⟩ := h.of_if
  obtain ⟨a, vs, rfl, ha, ra⟩ := rx.of_lst
  obtain ⟨b, ws, rfl, hb, rb⟩ := ry.of_lst
  exact ⟨a, b, vs, ws, rfl, rfl, hs _ _ ha, hs _ _ hb, by rw [ra.len, rb.len]; exact szOk_ok hz, fun p hp => h.list hmd hs (ra.append rb) hp⟩
theorem opd_add : OpD K mg .sh (rAddAll K) dAdd := by
  intro E S H x y dx dy Q hs rx ry h
  cases dx with
  | int i =>
    cases dy with
    | int j =>
      cases rx; cases ry
      exact .inl (.inl ⟨i, j, rfl, rfl, Post.val h hs (.int _)⟩)
    | _ => exact h.elim
  | str i =>
    cases dy with
    | str j =>
      obtain ⟨hz, h⟩ := Post.of_if h
      cases rx; cases ry
      exact .inr (.inr ⟨i, j, rfl, rfl, szOk_ok hz, Post.val h hs (.str _)⟩)
    | _ => exact h.elim
  | lst da =>
    cases dy with
    | lst db => exact .inl (.inr (catL (.inl rfl) hs rx ry h))
    | _ => exact h.elim
  | tup da =>
    cases dy with
    | tup db =>
      obtain ⟨hz, h⟩ := Post.of_if h
      obtain ⟨a, vs, rfl, ha, ra⟩ := rx.of_tup
      obtain ⟨b, ws, rfl, hb, rb⟩ := ry.of_tup
      refine .inr (.inl ⟨a, b, vs, ws, rfl, rfl, same_t hs ha, same_t hs hb, by rw [ra.len, rb.len]; exact szOk_ok hz, fun e => ?_, fun e1 e2 => ?_, fun _ _ p hp => h.tup hs (ra.append rb) hp⟩)
      · have e' := ra.nil_iff.mp e
        subst e'
        exact h.val hs ry
      · have e' := rb.nil_iff.mp e2
        subst e'
        rw [List.append_nil] at h
        exact h.val hs rx
    | _ => exact h.elim
  | _ => exact h.elim
theorem opd_addL : OpD K mg .ow (rAddAll K) dAddL := by
  intro E S H x y dx dy Q hs rx ry h
  cases dx with
  | lst da =>
    cases dy with
    | lst db => exact .inl (.inr (catL (.inr rfl) hs rx ry h))
    | _ => exact h.elim
  | _ => exact h.elim
theorem je_add (ha : JE X E m .sh a fa) (hb : JE X E m .sh b fb) : JE X E m .sh (.BinOp a .Add b pos) (f2 dAdd fa fb) := je_op op_addAll opd_add ha hb
theorem je_addL (ha : JE X E m .sh a fa) (hb : JE X E m .sh b fb) : JE X E m .ow (.BinOp a .Add b pos) (f2 dAddL fa fb) := je_op op_addAll opd_addL ha hb
end
def dIx : D → D → Res D
  | .lst xs, .int i => match atI xs i with
    | some d => .ok d
    | none => .er
  | .frl xs, .int i => match atI xs i with
    | some d => .ok d
    | none => .er
  | .tup xs, .int i => match atI xs i with
    | some d => .ok d
    | none => .er
  | .str x, .int i => if szOk x.length = true then (match atI x.cps.toList i with
    | some c => .ok (.str ⟨#[c]⟩)
    | none => .er) else .er
  | _, _ => .er
section
variable {K : PySem.W.Frag} {mg : Str → Option Value} {X : Cx} {E : WX} {m : Mds} {md : Md} {a b : Expr} {es : List Expr} {fa fb : Env → Res D} {pos : Pos}
theorem RepL.atI {S : Hp} {vs : List V} {ds : List D} {i : Int} {d : D} (r : RepL K mg S vs ds) (h : L2.atI ds i = some d) : ∃ v, L2.atI vs i = some v ∧ Rep K mg S v d := by
  unfold L2.atI at h ⊢
  rw [r.len]
  cases e : ixN ds.length i with
  | none => rw [e] at h; cases h
  | some j =>
    rw [e] at h
    exact r.get h
theorem opd_ix : OpD K mg .sh (rIx K) dIx := by
  intro E S H x y dx dy Q hs rx ry h
  cases dx with
  | lst xs =>
    cases dy with
    | int i =>
      cases ry
      simp only [dIx] at h
      split at h
      · rename_i d e
        obtain ⟨p, vs, rfl, hp, rv⟩ := rx.of_lst
        obtain ⟨v, ev, r⟩ := rv.atI e
        exact .inl ⟨p, vs, i, v, rfl, rfl, .inl (.inl (hs _ _ hp)), ev, h.val hs r⟩
      · exact h.elim
    | _ => exact h.elim
  | frl xs =>
    cases dy with
    | int i =>
      cases ry
      simp only [dIx] at h
      split at h
      · rename_i d e
        obtain ⟨p, vs, rfl, hp, rv⟩ := rx.of_frl
        obtain ⟨v, ev, r⟩ := rv.atI e
        exact .inl ⟨p, vs, i, v, rfl, rfl, same_l hs hp, ev, h.val hs r⟩
      · exact h.elim
    | _ => exact h.elim
  | tup xs =>
    cases dy with
    | int i =>
      cases ry
      simp only [dIx] at h
      split at h
      · rename_i d e
        obtain ⟨p, vs, rfl, hp, rv⟩ := rx.of_tup
        obtain ⟨v, ev, r⟩ := rv.atI e
        exact .inr (.inl ⟨p, vs, i, v, rfl, rfl, same_t hs hp, ev, h.val hs r⟩)
      · exact h.elim
    | _ => exact h.elim
  | str z =>
    cases dy with
    | int i =>
      cases ry
      simp only [dIx] at h
      obtain ⟨hz, h⟩ := Post.of_if h
      split at h
      · rename_i c e
        cases rx
        exact .inr (.inr ⟨z, i, c, rfl, rfl, szOk_ok hz, e, h.val hs (.str _)⟩)
      · exact h.elim
    | _ => exact h.elim
  | _ => exact h.elim
theorem je_item (ha : JE X E m .sh a fa) (hb : JE X E m .sh b fb) (hs : PlainIx b := by intro _ _; rfl) : JE X E m .sh (.Subscript a b pos) (f2 dIx fa fb) := je_ix ix_seq opd_ix ha hb hs
end
section
variable {K : PySem.W.Frag} {mg : Str → Option Value} {X : Cx} {E : WX} {m : Mds} {md : Md} {a b e : Expr} {es : List Expr} {fa fb : Env → Res D} {fs : Env → Res (List D)} {pos p : Pos} {x : Str} {id T : String} {r : List V → Hp → VK → Prop} {g : List D → Res D}
theorem call1 {K : PySem.W.Frag} {mg : Str → Option Value} (hr : CallD K mg md r g) {σ : L2.St} {H : Hp} {Q : VK} (h : tE K mg E m md (fOn g fs) σ H Q) : tCB r (tA K mg E m fs) σ H Q := by
  obtain ⟨S, ρ, hm, hp⟩ := h
  exact ⟨S, ρ, hm, (Post.bind hp).imp fun ds S1 H1 s1 h1 vs rs => hr _ S1 H1 vs ds Q s1.sub rs h1⟩
theorem je_callB (hc : CallR X (.builtin id) r) (hr : CallD X.K X.mg md r g) (hm : X.mg x = none) (ha : JA X E m (e :: es) fs) (hg : Gl X x := by rfl) (hv : bootBuiltins x = some (.builtin id) := by decide +kernel)
    (hn : x ≠ "__name__" := by decide) (hdb : (x == ("__debug__" : Str)) = false := by decide) (he : starEach (e :: es) X.env = (false, eval e X.env) :: starEach es X.env := by rfl) (hpl : (backTo pos (starEach es X.env)).any (·.1) = false := by rfl) :
    JE X E m md (.Call (.Name x p) (e :: es) [] pos) (fOn g fs) := ⟨PEimp (pe_callB hc hg hm hv ha.pa hn hdb he hpl) fun σ H Q h => call1 hr h⟩
theorem je_callTy (hc : CallR X (.type T) r) (hr : CallD X.K X.mg md r g) (hm : X.mg x = none) (ha : JA X E m (e :: es) fs) (hg : Gl X x := by rfl) (hv : bootBuiltins x = some (.type T) := by decide +kernel)
    (hn : x ≠ "__name__" := by decide) (hdb : (x == ("__debug__" : Str)) = false := by decide) (he : starEach (e :: es) X.env = (false, eval e X.env) :: starEach es X.env := by rfl) (hpl : (backTo pos (starEach es X.env)).any (·.1) = false := by rfl) :
    JE X E m md (.Call (.Name x p) (e :: es) [] pos) (fOn g fs) := ⟨PEimp (pe_callTy hc hg hm hv ha.pa hn hdb he hpl) fun σ H Q h => call1 hr h⟩
end
end Da
namespace Da
open PySem PySem.Spec L2
inductive Fl where
  | nx (ρ : Env) | rt (d : D) | bk (ρ : Env) | ct (ρ : Env) | xc (c : Str) (fs : List (Str × D)) (ρ : Env)
abbrev FS := Env → Res Fl
/-- an expression's end, in a statement -/
def lift {α : Type} (r : Res α) (ρ : Env) (k : α → Res Fl) : Res Fl := match r with
  | .ok a => k a
  | .ex c fs => .ok (.xc c fs ρ)
  | .er => .er
@[simp] theorem lift_ok {α : Type} (a : α) (ρ : Env) (k : α → Res Fl) : lift (.ok a) ρ k = k a := rfl
@[simp] theorem lift_ex {α : Type} (c : Str) (fs : List (Str × D)) (ρ : Env) (k : α → Res Fl) : lift (.ex c fs : Res α) ρ k = .ok (.xc c fs ρ) := rfl
@[simp] theorem lift_er {α : Type} (ρ : Env) (k : α → Res Fl) : lift (.er : Res α) ρ k = .er := rfl
section
variable {K : PySem.W.Frag} {mg : Str → Option Value} {m m1 m2 : Mds} {S0 H0 S S1 S' H H' H1 : Hp} {σ σ' : L2.St} {ρ : Env} {F : Nat → List Addr}
/-- the state of a body that was entered with the view S0 of H0 -/
def StF (K : PySem.W.Frag) (mg : Str → Option Value) (m : Mds) (S0 H0 S : Hp) (F : Nat → List Addr) (σ : L2.St) (ρ : Env) (H : Hp) : Prop :=
  Step S0 H0 S H ∧ EnvF K mg m F S H σ ρ ∧ ∀ i d, ρ[i]? = some (some d) → ∀ a, a ∈ F i → H0 a = none
def StM (K : PySem.W.Frag) (mg : Str → Option Value) (m : Mds) (S0 H0 : Hp) (σ : L2.St) (ρ : Env) (H : Hp) : Prop := ∃ S F, StF K mg m S0 H0 S F σ ρ H
theorem StF.envM (h : StF K mg m S0 H0 S F σ ρ H) : EnvM K mg m S H σ ρ := ⟨h.1.sub, F, h.2.1⟩
theorem StF.step (h : StF K mg m S0 H0 S F σ ρ H) (s : Step S H S' H') : StF K mg m S0 H0 S' F σ ρ H' := ⟨h.1.trans s, h.2.1.step s, h.2.2⟩
/-- the entry moved to the present view, and back -/
theorem Step.fwd (h : Step S0 H0 S H) : Step S H0 S H := ⟨h.hh, Same.refl _, h.sub, fun _ x => .inl x⟩
theorem Step.back (h : Step S0 H0 S H) (k : Step S H0 S' H') : Step S0 H0 S' H' := ⟨k.hh, h.ss.trans k.ss, k.sub, fun a x => by
  rcases k.new a x with z | z
  · exact h.new a z
  · exact .inr z⟩
/-- a value handed out of a body -/
def RetOk (K : PySem.W.Frag) (mg : Str → Option Value) (S0 H0 : Hp) (md : Md) (d : D) (v : V) (H : Hp) : Prop := ∃ S fp, Step S0 H0 S H ∧ OwnAt K mg S H fp v d md ∧ fp.Nodup ∧ ∀ a, a ∈ fp → H0 a = none
/-- the ends of the loop around, what a return hands out -/
structure Lp where
  mb : Mds := []
  mc : Mds := []
  md : Md := .sh
/-- all slots shared -/
def SPost (K : PySem.W.Frag) (mg : Str → Option Value) (E : WX) (L : Lp) (S0 H0 : Hp) (m' : Mds) (o : Res Fl) (Dn : Ends) : Prop := match o with
  | .ok (.nx ρ) => ∀ σ H, StM K mg m' S0 H0 σ ρ H → Dn.nx σ H
  | .ok (.rt d) => ∀ v H, RetOk K mg S0 H0 L.md d v H → Dn.rt v H
  | .ok (.bk ρ) => ∀ σ H, StM K mg L.mb S0 H0 σ ρ H → Dn.bk σ H
  | .ok (.ct ρ) => ∀ σ H, StM K mg L.mc S0 H0 σ ρ H → Dn.ct σ H
  | .ok (.xc c fs ρ) => ∀ σ S F H cls dd, StF K mg [] S0 H0 S F σ ρ H → ExcAt K mg S H cls dd c fs → E cls dd σ H
  | .ex _ _ => False
  | .er => False
def tS (K : PySem.W.Frag) (mg : Str → Option Value) (E : WX) (L : Lp) (m m' : Mds) (F : FS) : TS := fun Dn σ H => ∃ S0 H0 ρ, StM K mg m S0 H0 σ ρ H ∧ SPost K mg E L S0 H0 m' (F ρ) Dn
/-- what lies at the addresses A is taken into the view -/
noncomputable def take (S H : Hp) (A : Addr → Prop) : Hp := open Classical in fun a => if A a then H a else S a
theorem take_in {A : Addr → Prop} {a : Addr} (h : A a) : take S H A a = H a := by unfold take; rw [if_pos h]
theorem take_out {A : Addr → Prop} {a : Addr} (h : ¬ A a) : take S H A a = S a := by unfold take; rw [if_neg h]
theorem take_same {A : Addr → Prop} (h : Same S H) (ho : ∀ a, A a → S a = none) : Same S (take S H A) := fun a o e => by
  rw [take_out (fun z => by rw [ho a z] at e; cases e)]
  exact e
theorem take_sub {A : Addr → Prop} (h : Same S H) : Same (take S H A) H := fun a o e => by
  by_cases z : A a
  · rw [take_in z] at e; exact e
  · rw [take_out z] at e; exact h a o e
theorem OwnTr.shared {A : Addr → Prop} (hs : Same S H) (ho : ∀ a, A a → S a = none) : ∀ {n : Nat} {fp : List Addr} {v : V} {d : D}, OwnTr K mg S H n fp v d → (∀ a, a ∈ fp → A a) → Rep K mg (take S H A) v d
  | 0, _, _, _, h, _ => h.1.mono (take_same (A := A) hs ho)
  | n + 1, _, _, _, h, hA => by
    obtain ⟨p, vs, ds, fps, rfl, rfl, e3, e4, e5, e6, e7, e8⟩ := h
    refine Rep.lstL (vs := vs) (by rw [take_in (hA p (by rw [e3]; exact List.mem_cons_self))]; exact e5) ⟨e6, fun i v d a b => ?_⟩
    have hl := (List.getElem?_eq_some_iff.mp b).1
    have hj := List.getElem?_eq_getElem (l := fps) (i := i) (by omega)
    exact (e8 i v d _ a b hj).shared hs ho fun a ha => hA a (by rw [e3]; exact List.mem_cons_of_mem _ (flat_mem hj ha))
theorem OwnTr.stays {A : Addr → Prop} (hs : Same S H) (ho : ∀ a, A a → S a = none) : ∀ {n : Nat} {fp : List Addr} {v : V} {d : D}, OwnTr K mg S H n fp v d → (∀ a, a ∈ fp → ¬ A a) → OwnTr K mg (take S H A) H n fp v d
  | 0, _, _, _, h, _ => ⟨h.1.mono (take_same (A := A) hs ho), h.2⟩
  | n + 1, _, _, _, h, hA => by
    obtain ⟨p, vs, ds, fps, e1, e2, e3, e4, e5, e6, e7, e8⟩ := h
    exact ⟨p, vs, ds, fps, e1, e2, e3, by rw [take_out (hA p (by rw [e3]; exact List.mem_cons_self))]; exact e4, e5, e6, e7, fun j w e f x y z => (e8 j w e f x y z).stays hs ho fun a ha => hA a (by rw [e3]; exact List.mem_cons_of_mem _ (flat_mem z ha))⟩
theorem OwnTh.shared {A : Addr → Prop} {fp : List Addr} {v : V} {d : D} {n k : Nat} {q : Addr} (hs : Same S H) (ho : ∀ a, A a → S a = none) (h : OwnTh K mg S H n k q fp v d) (hA : ∀ a, a ∈ fp → A a) : Rep K mg (take S H A) v d := by
  obtain ⟨p, vs, ds, fps, rfl, rfl, e3, e4, e5, e6, e7, h1, h2, h3, e8⟩ := h
  refine Rep.lstL (vs := vs) (by rw [take_in (hA p (by rw [e3]; exact List.mem_cons_self))]; exact e5) ⟨e6, fun i v d a b => ?_⟩
  by_cases hik : i = k
  · subst hik
    rw [h1] at a; rw [h2] at b
    cases a; cases b
    exact .exc
  · have hl := (List.getElem?_eq_some_iff.mp b).1
    have hj := List.getElem?_eq_getElem (l := fps) (i := i) (by omega)
    exact (e8 i v d _ hik a b hj).shared hs ho fun a ha => hA a (by rw [e3]; exact List.mem_cons_of_mem _ (flat_mem hj ha))
theorem OwnTh.stays {A : Addr → Prop} {fp : List Addr} {v : V} {d : D} {n k : Nat} {q : Addr} (hs : Same S H) (ho : ∀ a, A a → S a = none) (h : OwnTh K mg S H n k q fp v d) (hA : ∀ a, a ∈ fp → ¬ A a) : OwnTh K mg (take S H A) H n k q fp v d := by
  obtain ⟨p, vs, ds, fps, e1, e2, e3, e4, e5, e6, e7, h1, h2, h3, e8⟩ := h
  exact ⟨p, vs, ds, fps, e1, e2, e3, by rw [take_out (hA p (by rw [e3]; exact List.mem_cons_self))]; exact e4, e5, e6, e7, h1, h2, h3, fun j w e f i x y z => (e8 j w e f i x y z).stays hs ho fun a ha => hA a (by rw [e3]; exact List.mem_cons_of_mem _ (flat_mem z ha))⟩
theorem OwnAt.shared {A : Addr → Prop} {fp : List Addr} {v : V} {d : D} {md : Md} (h : OwnAt K mg S H fp v d md) (hs : Same S H) (ho : ∀ a, A a → S a = none) (hA : ∀ a, a ∈ fp → A a) : Rep K mg (take S H A) v d := by
  have ss := take_same (A := A) hs ho
  cases md with
  | owq q0 =>
    obtain ⟨e0, p, vs, ds, rfl, rfl, e3, e4, e5, e6⟩ := h
    exact Rep.lstL (by rw [take_in (hA p (by rw [e3]; exact List.mem_cons_self))]; exact e5) (e6.mono ss)
  | tr n b at_ =>
    cases b with
    | none => exact h.2.shared hs ho hA
    | some kq => exact h.2.shared hs ho hA
  | ex a0 b0 c0 =>
    obtain ⟨c, vfs, ds, e1, e2, e3, e4, e5, e6⟩ := h
    rw [e1, e2]; exact .exc
  | sh => exact h.1.mono ss
  | ow =>
    obtain ⟨p, vs, ds, rfl, rfl, e3, e4, e5, e6⟩ := h
    exact Rep.lstL (by rw [take_in (hA p (by rw [e3]; exact List.mem_cons_self))]; exact e5) (e6.mono ss)
  | ow2 =>
    obtain ⟨p, ps, dss, rfl, rfl, e3, e4, e5, e6, e7⟩ := h
    refine Rep.lstL (vs := ps.map V.ref) (by rw [take_in (hA p (by rw [e3]; exact List.mem_cons_self))]; exact e5) ⟨by rw [List.length_map, List.length_map, e6], fun i v d a b => ?_⟩
    rw [List.getElem?_map] at a b
    cases ea : ps[i]? with
    | none => rw [ea] at a; cases a
    | some q =>
      cases eb : dss[i]? with
      | none => rw [eb] at b; cases b
      | some ds =>
        rw [ea] at a; rw [eb] at b
        cases a; cases b
        obtain ⟨z1, vs, z2, z3⟩ := e7 i q ds ea eb
        exact Rep.lstL (by rw [take_in (hA q (by rw [e3]; exact List.mem_cons_of_mem _ (List.mem_of_getElem? ea)))]; exact z2) (z3.mono ss)
  | dk =>
    obtain ⟨p, kvs, ds, rfl, rfl, e3, e4, e5, e6⟩ := h
    have e6' := e6.mono ss
    refine Rep.dic (.inl (by rw [take_in (hA p (by rw [e3]; exact List.mem_cons_self))]; exact e5)) (by have := e6.len; rw [List.length_map] at this; exact this) fun i q d a b => ?_
    exact e6'.at_ i q.2 d (by rw [List.getElem?_map, a]; rfl) b
  | dt =>
    obtain ⟨p, kvs, ds, rfl, rfl, e3, e4, e5, e6⟩ := h
    have e6' := e6.mono ss
    refine Rep.dit (by rw [take_in (hA p (by rw [e3]; exact List.mem_cons_self))]; exact e5) (by have := e6.len; rw [List.length_map] at this; exact this) fun i q d a b => ?_
    exact e6'.at_ i q.2 d (by rw [List.getElem?_map, a]; rfl) b
  | ob p =>
    obtain ⟨dx, C, c, fs, ds, rfl, rfl, e3, e4, e5, e6, e7, e8, e9⟩ := h
    have e9' := e9.mono ss
    refine Rep.obj (by rw [take_in (hA p (by rw [e3]; exact List.mem_cons_self))]; exact e7) e6 (by have := e9.len; rw [List.length_map] at this; exact this) fun i q d a b => ?_
    exact e9'.at_ i q.2 d (by rw [List.getElem?_map, a]; rfl) b
/-- an owner whose addresses are not taken stays -/
theorem OwnAt.stays {A : Addr → Prop} {fp : List Addr} {v : V} {d : D} {md : Md} (h : OwnAt K mg S H fp v d md) (hs : Same S H) (ho : ∀ a, A a → S a = none) (hA : ∀ a, a ∈ fp → ¬ A a) : OwnAt K mg (take S H A) H fp v d md := by
  have ss := take_same (A := A) hs ho
  cases md with
  | owq q0 =>
    obtain ⟨e0, p, vs, ds, e1, e2, e3, e4, e5, e6⟩ := h
    exact ⟨e0, p, vs, ds, e1, e2, e3, by rw [take_out (hA p (by rw [e3]; exact List.mem_cons_self))]; exact e4, e5, e6.mono ss⟩
  | tr n b at_ =>
    cases b with
    | none => exact ⟨h.1, h.2.stays hs ho hA⟩
    | some kq => exact ⟨h.1, h.2.stays hs ho hA⟩
  | ex a0 b0 c0 =>
    obtain ⟨c, vfs, ds, e1, e2, e3, e4, e5, e6⟩ := h
    refine ⟨c, vfs, ds, e1, e2, e3, e4, e5.imp id fun ⟨dx, y1, y2⟩ => ⟨dx, y1, ss _ _ y2⟩, e6.mono (ss)⟩
  | sh => exact ⟨h.1.mono ss, h.2⟩
  | ow =>
    obtain ⟨p, vs, ds, e1, e2, e3, e4, e5, e6⟩ := h
    exact ⟨p, vs, ds, e1, e2, e3, by rw [take_out (hA p (by rw [e3]; exact List.mem_cons_self))]; exact e4, e5, e6.mono ss⟩
  | ow2 =>
    obtain ⟨p, ps, dss, e1, e2, e3, e4, e5, e6, e7⟩ := h
    refine ⟨p, ps, dss, e1, e2, e3, by rw [take_out (hA p (by rw [e3]; exact List.mem_cons_self))]; exact e4, e5, e6, fun j q ds x y => ?_⟩
    obtain ⟨z1, vs, z2, z3⟩ := e7 j q ds x y
    exact ⟨by rw [take_out (hA q (by rw [e3]; exact List.mem_cons_of_mem _ (List.mem_of_getElem? x)))]; exact z1, vs, z2, z3.mono ss⟩
  | dk =>
    obtain ⟨p, vs, ds, e1, e2, e3, e4, e5, e6⟩ := h
    exact ⟨p, vs, ds, e1, e2, e3, by rw [take_out (hA p (by rw [e3]; exact List.mem_cons_self))]; exact e4, e5, e6.mono ss⟩
  | dt =>
    obtain ⟨p, vs, ds, e1, e2, e3, e4, e5, e6⟩ := h
    exact ⟨p, vs, ds, e1, e2, e3, by rw [take_out (hA p (by rw [e3]; exact List.mem_cons_self))]; exact e4, e5, e6.mono ss⟩
  | ob p =>
    obtain ⟨dx, C, c, fs, ds, e1, e2, e3, e4, e5, e6, e7, e8, e9⟩ := h
    exact ⟨dx, C, c, fs, ds, e1, e2, e3, by rw [take_out (hA p (by rw [e3]; exact List.mem_cons_self))]; exact e4, by rw [take_out (hA dx (by rw [e3]; exact List.mem_cons_of_mem _ List.mem_cons_self))]; exact e5, e6, e7, e8, e9.mono ss⟩
/-- m1 has no more of one's own than m -/
def Weak (m m1 : Mds) : Prop := ∀ i, mdAt m1 i = mdAt m i ∨ mdAt m1 i = .sh
theorem mdAt_rep {n i : Nat} : mdAt (List.replicate n .sh) i = .sh := by
  unfold mdAt
  rw [List.getD_eq_getElem?_getD, List.getElem?_replicate]
  split <;> rfl
theorem weak_sh {m : Mds} (n : Nat) : Weak m (List.replicate n .sh) := fun i => .inr mdAt_rep
theorem Weak.nil (m : Mds) : Weak m [] := fun i => .inr (by unfold mdAt; simp)
theorem Weak.refl (m : Mds) : Weak m m := fun i => .inl rfl
theorem Weak.of : ∀ {m m1 : Mds}, (m.length = m1.length ∧ (m.zip m1).all (fun p => decide (p.2 = p.1) || decide (p.2 = .sh)) = true) → Weak m m1 := by
  intro m m1 h i
  obtain ⟨hl, h⟩ := h
  unfold mdAt
  by_cases hi : i < m.length
  · have hi1 : i < m1.length := by omega
    have := List.all_eq_true.mp h (m[i], m1[i]) (by
      refine List.mem_iff_getElem.mpr ⟨i, by rw [List.length_zip]; omega, ?_⟩
      rw [List.getElem_zip])
    rw [List.getD_eq_getElem?_getD, List.getD_eq_getElem?_getD, List.getElem?_eq_getElem hi, List.getElem?_eq_getElem hi1]
    rcases Bool.or_eq_true_iff.mp this with z | z
    · exact .inl (of_decide_eq_true z)
    · exact .inr (of_decide_eq_true z)
  · refine .inr ?_
    rw [List.getD_eq_getElem?_getD, List.getElem?_eq_none_iff.mpr (by omega)]
    rfl
theorem Weak.cons {x : Md} (w : Weak m m1) : Weak (x :: m) (x :: m1) := fun i => match i with
  | 0 => .inl rfl
  | i + 1 => w i
theorem Weak.consSh {x : Md} (w : Weak m m1) : Weak (x :: m) (.sh :: m1) := fun i => match i with
  | 0 => .inr rfl
  | i + 1 => w i
theorem StF.weakX (w : Weak m m1) (h : StF K mg m S0 H0 S F σ ρ H) : ∃ S' F', StF K mg m1 S0 H0 S' F' σ ρ H ∧ Same S S' ∧ ∀ a, S' a ≠ none → S a ≠ none ∨ ∃ i d, ρ[i]? = some (some d) ∧ a ∈ F i := by
  obtain ⟨st, e, nw⟩ := h
  let A : Addr → Prop := fun a => ∃ i d, ρ[i]? = some (some d) ∧ mdAt m1 i = .sh ∧ a ∈ F i
  have ho : ∀ a, A a → S a = none := fun a ⟨i, d, e1, _, e3⟩ => by
    obtain ⟨v, _, o⟩ := e.at_ i d e1
    exact (o.out e3).1
  let F' : Nat → List Addr := fun i => if mdAt m1 i = .sh then [] else F i
  refine ⟨take S H A, F', ⟨⟨st.hh, st.ss.trans (take_same st.sub ho), take_sub st.sub, fun a x => ?_⟩, ⟨e.len, fun i d e1 => ?_, fun i d e1 => ?_, fun i j d d' hij e1 e2 a ha => ?_⟩, fun i d e1 a ha => ?_⟩, take_same st.sub ho, fun a x => ?_⟩
  · by_cases z : A a
    · obtain ⟨i, d, e1, _, e3⟩ := z
      exact .inr (nw i d e1 a e3)
    · rw [take_out z] at x
      exact st.new a x
  · obtain ⟨v, e2, o⟩ := e.at_ i d e1
    refine ⟨v, e2, ?_⟩
    by_cases hsh : mdAt m1 i = .sh
    · rw [hsh]
      refine ⟨o.shared st.sub ho fun a ha => ⟨i, d, e1, hsh, ha⟩, ?_⟩
      show (if mdAt m1 i = .sh then [] else F i) = []
      rw [if_pos hsh]
    · rcases w i with z | z
      · rw [z]
        have : F' i = F i := if_neg hsh
        rw [this]
        refine o.stays st.sub ho fun a ha ⟨j, d', e1', e3', e4'⟩ => ?_
        by_cases hij : i = j
        · subst hij; exact hsh e3'
        · exact e.apart i j d d' hij e1 e1' a ha e4'
      · exact absurd z hsh
  · show (if mdAt m1 i = .sh then [] else F i).Nodup
    split
    · exact List.nodup_nil
    · exact e.nd i d e1
  · have ha' : a ∈ (if mdAt m1 i = .sh then [] else F i) := ha
    show a ∉ (if mdAt m1 j = .sh then [] else F j)
    split at ha'
    · cases ha'
    · split
      · exact fun z => nomatch z
      · exact e.apart i j d d' hij e1 e2 a ha'
  · have ha' : a ∈ (if mdAt m1 i = .sh then [] else F i) := ha
    split at ha'
    · cases ha'
    · exact nw i d e1 a ha'
  · by_cases z : A a
    · obtain ⟨i, d, e1, _, e3⟩ := z
      exact .inr ⟨i, d, e1, e3⟩
    · rw [take_out z] at x
      exact .inl x
theorem StF.weak (w : Weak m m1) (h : StF K mg m S0 H0 S F σ ρ H) : ∃ S' F', StF K mg m1 S0 H0 S' F' σ ρ H ∧ Same S S' := by
  obtain ⟨S', F', a, b, _⟩ := h.weakX w
  exact ⟨S', F', a, b⟩
theorem StM.weak (w : Weak m m1) (h : StM K mg m S0 H0 σ ρ H) : StM K mg m1 S0 H0 σ ρ H := by
  obtain ⟨S, F, h⟩ := h
  obtain ⟨S', F', h', _⟩ := h.weak w
  exact ⟨S', F', h'⟩
def F_set (F : Nat → List Addr) (i : Nat) (fp : List Addr) : Nat → List Addr := fun j => if j = i then fp else F j
theorem F_at {i : Nat} {fp : List Addr} : F_set F i fp i = fp := if_pos rfl
theorem F_off {i j : Nat} {fp : List Addr} (h : j ≠ i) : F_set F i fp j = F j := if_neg h
theorem mdAt_set {i j : Nat} {md : Md} (hi : i < m.length) : mdAt (m.set i md) j = if j = i then md else mdAt m j := by
  unfold mdAt
  rw [List.getD_eq_getElem?_getD, List.getElem?_set]
  by_cases h : j = i
  · rw [if_pos h.symm, if_pos h, if_pos hi]
    rfl
  · rw [if_neg (fun z => h z.symm), if_neg h, List.getD_eq_getElem?_getD]
theorem StF.set {i : Nat} {d : D} {v : V} {md : Md} {fp : List Addr} (h : StF K mg m S0 H0 S F σ ρ H) (hi : i < m.length) (o : OwnAt K mg S H fp v d md) (hn : fp.Nodup) (hf : ∀ a, a ∈ fp → H0 a = none)
    (hd : ∀ j e, j ≠ i → ρ[j]? = some (some e) → ∀ a, a ∈ F j → a ∉ fp) : StF K mg (m.set i md) S0 H0 S (F_set F i fp) (σ.set i (some v)) (ρ.set i (some d)) H := by
  obtain ⟨st, e, nw⟩ := h
  have key : ∀ j d', (ρ.set i (some d))[j]? = some (some d') → (j = i ∧ d' = d ∧ i < ρ.length) ∨ (j ≠ i ∧ ρ[j]? = some (some d')) := fun j d' ej => by
    by_cases hj : j = i
    · subst hj
      rw [List.getElem?_set, if_pos rfl] at ej
      split at ej
      · rename_i hl
        have : d = d' := by injection ej with z; injection z
        exact .inl ⟨rfl, this.symm, hl⟩
      · cases ej
    · rw [List.getElem?_set_ne (Ne.symm hj)] at ej
      exact .inr ⟨hj, ej⟩
  refine ⟨st, ⟨by rw [List.length_set, List.length_set]; exact e.len, fun j d' ej => ?_, fun j d' ej => ?_, fun j k d1 d2 hjk e1 e2 a ha => ?_⟩, fun j d' ej a ha => ?_⟩
  · rcases key j d' ej with ⟨rfl, rfl, hl⟩ | ⟨hj, ej'⟩
    · refine ⟨v, ?_, ?_⟩
      · rw [List.getElem?_set_self (by rw [← e.len]; exact hl)]
      · rw [mdAt_set hi, if_pos rfl, F_at]
        exact o
    · obtain ⟨w, e1, o1⟩ := e.at_ j d' ej'
      refine ⟨w, by rw [List.getElem?_set_ne (Ne.symm hj)]; exact e1, ?_⟩
      rw [mdAt_set hi, if_neg hj, F_off hj]
      exact o1
  · rcases key j d' ej with ⟨rfl, rfl, hl⟩ | ⟨hj, ej'⟩
    · rw [F_at]; exact hn
    · rw [F_off hj]; exact e.nd j d' ej'
  · rcases key j d1 e1 with ⟨rfl, rfl, hl⟩ | ⟨hj, ej⟩
    · rw [F_at] at ha
      rcases key k d2 e2 with ⟨z, _, _⟩ | ⟨hk, ek⟩
      · exact absurd z.symm hjk
      · rw [F_off hk]
        exact fun z => hd k d2 hk ek a z ha
    · rw [F_off hj] at ha
      rcases key k d2 e2 with ⟨rfl, _, _⟩ | ⟨hk, ek⟩
      · rw [F_at]
        exact hd j d1 hj ej a ha
      · rw [F_off hk]
        exact e.apart j k d1 d2 hjk ej ek a ha
  · rcases key j d' ej with ⟨rfl, rfl, hl⟩ | ⟨hj, ej'⟩
    · rw [F_at] at ha; exact hf a ha
    · rw [F_off hj] at ha; exact nw j d' ej' a ha
end
end Da
namespace Da
open PySem PySem.Spec L2
structure JS (X : Cx) (E : WX) (L : Lp) (m m' : Mds) (st : Stmt) (F : FS) : Prop where
  ps : PS X st (tS X.K X.mg E L m m' F)
structure JSs (X : Cx) (E : WX) (L : Lp) (m m' : Mds) (st : List Stmt) (F : FS) : Prop where
  ps : PSs X st (tS X.K X.mg E L m m' F)
def fNext : FS := fun ρ => .ok (.nx ρ)
def fSeq (F G : FS) : FS := fun ρ => match F ρ with
  | .ok (.nx ρ') => G ρ'
  | o => o
def fSet (i : Nat) (f : Env → Res D) : FS := fun ρ => lift (f ρ) ρ fun d => .ok (.nx (ρ.set i (some d)))
def fRet (f : Env → Res D) : FS := fun ρ => lift (f ρ) ρ fun d => .ok (.rt d)
def fRetN : FS := fun _ => .ok (.rt .non)
def fIfS (c : Env → Res Bool) (F G : FS) : FS := fun ρ => lift (c ρ) ρ fun b => if b = true then F ρ else G ρ
def fDrop (f : Env → Res D) : FS := fun ρ => lift (f ρ) ρ fun _ => .ok (.nx ρ)
def fBrk : FS := fun ρ => .ok (.bk ρ)
def fCnt : FS := fun ρ => .ok (.ct ρ)
section
variable {K : PySem.W.Frag} {mg : Str → Option Value} {m m1 m2 : Mds} {S0 H0 S S1 S' H H' H1 : Hp} {σ σ' : L2.St} {ρ : Env} {F : Nat → List Addr} {E : WX} {L : Lp} {Dn : Ends} {α : Type}
/-- an expression in a statement -/
theorem lift_post {r : Res α} {k : α → Res Fl} (h : StF K mg m S0 H0 S F σ ρ H) (p : SPost K mg E L S0 H0 m2 (lift r ρ k) Dn) : PostW K mg (WE E σ) S H r fun a S1 H1 => SPost K mg E L S0 H0 m2 (k a) Dn := by
  cases r with
  | ok a => exact fun S1 H1 s1 => p
  | ex c fs =>
    intro S1 H1 cls dd s1 x
    obtain ⟨S2, F2, h2, ss⟩ := (h.step s1).weak (Weak.nil m)
    refine p σ S2 F2 H1 cls dd h2 ⟨x.1, ?_⟩
    rcases x.2 with z | ⟨a, vfs, e1, e2, e3, e4⟩
    · exact .inl z
    · exact .inr ⟨a, vfs, e1, ss _ _ e2, e3, e4.mono ss⟩
  | er => exact p.elim
theorem StF.stM (h : StF K mg m S0 H0 S F σ ρ H) : StM K mg m S0 H0 σ ρ H := ⟨S, F, h⟩
/-- what is handed out of a pure expression -/
theorem RetOk.of {md : Md} {fp : List Addr} {v : V} {d : D} (st : Step S0 H0 S H) (s : Step S H S1 H1) (o : OwnAt K mg S1 H1 fp v d md) (hn : fp.Nodup) (hf : ∀ a, a ∈ fp → H a = none) : RetOk K mg S0 H0 md d v H1 :=
  ⟨S1, fp, st.trans s, o, hn, fun a ha => st.hh.free (hf a ha)⟩
theorem SPost.next {ρ' : Env} (p : SPost K mg E L S0 H0 m2 (.ok (.nx ρ')) Dn) (h : StM K mg m2 S0 H0 σ ρ' H) : Dn.nx σ H := p σ H h
end
section
variable {X : Cx} {E : WX} {L : Lp} {m m1 m2 m' : Mds} {md : Md} {st : Stmt} {sts rest : List Stmt} {e a b : Expr} {f fa fb : Env → Res D} {c : Expr} {g : Env → Res Bool} {F G : FS} {pos : Pos} {x : Str}
theorem PSsimp {t t' : TS} (h : PSs X sts t) (k : ∀ D σ H, t' D σ H → t D σ H) : PSs X sts t' := ⟨fun pins s σ H D I q => h.run pins s σ H D I (k D σ H q)⟩
theorem PSimp {t t' : TS} (h : PS X st t) (k : ∀ D σ H, t' D σ H → t D σ H) : PS X st t' := ⟨fun pins s σ H D I q => h.run pins s σ H D I (k D σ H q)⟩
theorem js_nil : JSs X E L m m [] fNext := ⟨PSsimp pss_nil fun D σ H h => by
  obtain ⟨S0, H0, ρ, st, p⟩ := h
  exact p σ H st⟩
theorem seq_ok {K : PySem.W.Frag} {mg : Str → Option Value} {D : Ends} {σ : L2.St} {H : Hp} (h : tS K mg E L m m2 (fSeq F G) D σ H) : tSeq (tS K mg E L m m1 F) (tS K mg E L m1 m2 G) D σ H := by
  obtain ⟨S0, H0, ρ, st, p⟩ := h
  refine ⟨S0, H0, ρ, st, ?_⟩
  unfold fSeq at p
  cases h : F ρ with
  | ok o =>
    rw [h] at p
    cases o with
    | nx ρ' => exact fun σ' H' st' => ⟨S0, H0, ρ', st', p⟩
    | rt d => exact p
    | bk ρ' => exact p
    | ct ρ' => exact p
    | xc c fs ρ' => exact p
  | ex c fs => rw [h] at p; exact p
  | er => rw [h] at p; exact p
theorem js_cons (h1 : JS X E L m m1 st F) (h2 : JSs X E L m1 m2 rest G) : JSs X E L m m2 (st :: rest) (fSeq F G) := ⟨PSsimp (pss_cons h1.ps h2.ps) fun D σ H h => seq_ok h⟩
theorem js_one (h1 : JS X E L m m1 st F) : JSs X E L m m1 [st] F := ⟨pss_one h1.ps⟩
theorem js_weak1 (h : JS X E L m1 m2 st F) (w : Weak m m1 := by first | exact Weak.of (by decide) | exact weak_sh _ | (repeat (first | exact Weak.refl _ | exact weak_sh _ | apply Weak.cons | apply Weak.consSh))) : JS X E L m m2 st F := ⟨PSimp h.ps fun D σ H q => by
  obtain ⟨S0, H0, ρ, st, p⟩ := q
  exact ⟨S0, H0, ρ, st.weak w, p⟩⟩
theorem SPost.weak {K : PySem.W.Frag} {mg : Str → Option Value} {S0 H0 : Hp} {o : Res Fl} {Dn : Ends} (w : Weak m1 m2) (p : SPost K mg E L S0 H0 m2 o Dn) : SPost K mg E L S0 H0 m1 o Dn := by
  cases o with
  | ok o =>
    cases o with
    | nx ρ' => exact fun σ' H' st' => p σ' H' (st'.weak w)
    | rt d => exact p
    | bk ρ' => exact p
    | ct ρ' => exact p
    | xc c fs ρ' => exact p
  | ex c fs => exact p
  | er => exact p
/-- .. behind a block -/
theorem js_end (h : JSs X E L m m1 sts F) (w : Weak m1 m2 := by first | exact Weak.of (by decide) | exact weak_sh _ | (repeat (first | exact Weak.refl _ | exact weak_sh _ | apply Weak.cons | apply Weak.consSh))) : JSs X E L m m2 sts F := ⟨PSsimp h.ps fun D σ H q => by
  obtain ⟨S0, H0, ρ, st, p⟩ := q
  exact ⟨S0, H0, ρ, st, p.weak w⟩⟩
theorem js_set (i : Nat) {pos' : Pos} (he : JE X E m md e f) (hN : X.N.Nodup) (hl : i < m.length := by first | decide | simp) (hi : X.N[i]? = some x := by rfl) (hx : Loc X.env.scope x := by first | exact Or.inl rfl | exact Or.inr rfl)
    (hs : swapsWith e (some (.Name x pos')) pos.line X.env = pure false := by rfl) (hf : X.fn x = true ∨ X.env.scope.names.lookup x = some .local := by first | exact .inl rfl | exact .inr rfl) :
    JS X E L m (m.set i md) (.Assign [.Name x pos'] e pos) (fSet i f) := by
  refine ⟨PSimp (ps_set hN hi hx he.pe hs hf) fun D σ H h => ?_⟩
  obtain ⟨S0, H0, ρ, ⟨S, Fp, st⟩, p⟩ := h
  refine ⟨S, ρ, st.envM, (lift_post st p).postM fun d v S1 H1 fp s1 o hn hf k => ?_⟩
  refine k _ _ (StF.stM ((st.step s1).set hl o hn (fun a ha => st.1.hh.free (hf a ha)) fun j e' hj ej a ha z => ?_))
  obtain ⟨w, _, o'⟩ := st.2.1.at_ j e' ej
  obtain ⟨_, u, hu⟩ := o'.out ha
  rw [hf a z] at hu
  cases hu
theorem js_ret (he : JE X E m L.md e f) : JS X E L m m' (.Return (some e) pos) (fRet f) := by
  refine ⟨PSimp (ps_ret he.pe) fun D σ H h => ?_⟩
  obtain ⟨S0, H0, ρ, ⟨S, Fp, st⟩, p⟩ := h
  refine ⟨S, ρ, st.envM, (lift_post st p).postM fun d v S1 H1 fp s1 o hn hf k => ?_⟩
  exact k v H1 (RetOk.of st.1 s1 o hn hf)
/-- an own thing is handed out -/
theorem js_retV (i : Nat) (hmd : mdAt m i = L.md := by rfl) (hN : X.N[i]? = some x := by rfl) (hv : Vis X.env.scope x := by first | exact Or.inl rfl | exact Or.inr (Or.inl rfl) | exact Or.inr (Or.inr rfl)) {p : Pos}
    (hd : (x == ("__debug__" : Str)) = false := by decide) (hcd : (x == ("__classdict__" : Str)) = false := by decide) : JS X E L m m' (.Return (some (.Name x p)) pos) (fRet (fV i)) := by
  refine ⟨PSimp (ps_ret (pe_var hN hv hd hcd)) fun D σ H h => ?_⟩
  obtain ⟨S0, H0, ρ, ⟨S, Fp, st⟩, p⟩ := h
  unfold fRet fV at p
  split at p
  · rename_i d e
    obtain ⟨v, e1, o⟩ := st.2.1.at_ i d e
    rw [hmd] at o
    exact ⟨v, e1, p v H ⟨S, _, st.1, o, st.2.1.nd i d e, st.2.2 i d e⟩⟩
  · exact p.elim
theorem js_if (hc : JT X E m c g) (ha : JSs X E L m m' sts F) (hb : JSs X E L m m' rest G) : JS X E L m m' (.If c sts rest pos) (fIfS g F G) := by
  refine ⟨PSimp (ps_if hc.pt ha.ps hb.ps) fun D σ H h => ?_⟩
  obtain ⟨S0, H0, ρ, ⟨S, Fp, st⟩, p⟩ := h
  refine ⟨S, ρ, st.envM, ?_⟩
  have k := lift_post st p
  cases hg : g ρ with
  | ok bb =>
    rw [hg] at k
    intro S1 H1 s1
    have k1 := k S1 H1 s1
    cases bb with
    | true => exact ⟨S0, H0, ρ, (st.step s1).stM, k1⟩
    | false => exact ⟨S0, H0, ρ, (st.step s1).stM, k1⟩
  | ex c' fs => rw [hg] at k; exact k
  | er => rw [hg] at k; exact k
theorem js_break (w : Weak m L.mb := by first | exact Weak.of (by decide) | exact weak_sh _ | (repeat (first | exact Weak.refl _ | exact weak_sh _ | apply Weak.cons | apply Weak.consSh))) : JS X E L m m' (.Break pos) fBrk := ⟨PSimp ps_break fun D σ H h => by
  obtain ⟨S0, H0, ρ, st, p⟩ := h
  exact p σ H (st.weak w)⟩
theorem set_sh {m : Mds} {i : Nat} (hl : i < m.length) (hmd : mdAt m i = .sh) : m.set i .sh = m := by
  refine List.ext_getElem? fun j => ?_
  rw [List.getElem?_set]
  unfold mdAt at hmd
  rw [List.getD_eq_getElem?_getD, List.getElem?_eq_getElem hl] at hmd
  split
  · rename_i hj
    subst hj
    rw [List.getElem?_eq_getElem hl]
    exact congrArg some hmd.symm
  · rfl
/-- x += e of whole numbers -/
def fAug (i : Nat) (g : D → D → Res D) (f : Env → Res D) : FS := fSet i (f2 g (fV i) f)
def fApp (i : Nat) (f : Env → Res D) : FS := fun ρ => match ρ[i]? with
  | some (some (.lst xs)) => lift (f ρ) ρ fun d => if szOk (xs.length + 1) = true then .ok (.nx (ρ.set i (some (.lst (xs ++ [d]))))) else .er
  | _ => .er
theorem szOk_lt {n : Nat} (h : szOk (n + 1) = true) : n < sizeLine := by
  have := szOk_le h
  rw [sizeLine_eq]; omega
/-- an own list, at a known place or not -/
def IsOw (md : Md) : Prop := md = .ow ∨ ∃ q, md = .owq q
/-- the list of slot i is written -/
theorem StF.write {K : PySem.W.Frag} {mg : Str → Option Value} {S0 H0 S H : Hp} {Fp : Nat → List Addr} {σ : L2.St} {ρ : Env} {i : Nat} {xs ys : List D} {vs ws : List V} {p : Addr} (st : StF K mg m S0 H0 S Fp σ ρ H) (hl : i < m.length) (hmd : IsOw (mdAt m i)) (hρ : ρ[i]? = some (some (.lst xs)))
    (hp : Fp i = [p]) (hσ : σ[i]? = some (some (.ref p))) (sp : S p = none) (hv : H p = some (.lst vs)) (r : RepL K mg S ws ys) : StF K mg m S0 H0 S Fp σ (ρ.set i (some (.lst ys))) (upd H p (.lst ws)) := by
  obtain ⟨s, e, nw⟩ := st
  have hil : i < ρ.length := (List.getElem?_eq_some_iff.mp hρ).1
  have h0 : H0 p = none := nw i _ hρ p (by rw [hp]; exact List.mem_cons_self)
  have key : ∀ j d', (ρ.set i (some (.lst ys)))[j]? = some (some d') → (j = i ∧ d' = .lst ys) ∨ (j ≠ i ∧ ρ[j]? = some (some d')) := fun j d' ej => by
    by_cases hj : j = i
    · subst hj
      rw [List.getElem?_set_self hil] at ej
      injection ej with z; injection z with z
      exact .inl ⟨rfl, z.symm⟩
    · rw [List.getElem?_set_ne (Ne.symm hj)] at ej
      exact .inr ⟨hj, ej⟩
  have same : ∀ {B : Hp}, Same B H → B p = none → Same B (upd H p (.lst ws)) := fun hB hb a o ea => by
    rw [upd_ne (ne_of_none ea hb)]
    exact hB a o ea
  have pres : ∀ {d}, ρ[i]? = some (some d) ↔ d = .lst xs := fun {d} => by
    rw [hρ]
    constructor
    · intro z; injection z with z; injection z with z; exact z.symm
    · intro z; rw [z]
  refine ⟨⟨same s.hh h0, s.ss, same s.sub sp, s.new⟩, ⟨by rw [List.length_set]; exact e.len, fun j d' ej => ?_, fun j d' ej => ?_, fun j k d1 d2 hjk e1 e2 => ?_⟩, fun j d' ej => ?_⟩
  · rcases key j d' ej with ⟨rfl, rfl⟩ | ⟨hj, ej'⟩
    · refine ⟨_, hσ, ?_⟩
      rcases hmd with hmd | ⟨q, hmd⟩
      · rw [hmd]
        exact ⟨p, ws, ys, rfl, rfl, hp, sp, upd_same, r⟩
      · obtain ⟨w, e1, o1⟩ := e.at_ j _ hρ
        rw [hmd] at o1 ⊢
        rw [hσ] at e1
        cases e1
        exact ⟨o1.1, p, ws, ys, rfl, rfl, hp, sp, upd_same, r⟩
    · obtain ⟨w, e1, o1⟩ := e.at_ j d' ej'
      exact ⟨w, e1, o1.other sp fun z => e.apart i j _ d' (Ne.symm hj) hρ ej' p (by rw [hp]; exact List.mem_cons_self) z⟩
  · rcases key j d' ej with ⟨rfl, rfl⟩ | ⟨hj, ej'⟩
    · exact e.nd _ _ hρ
    · exact e.nd j d' ej'
  · have live : ∀ j d', (ρ.set i (some (.lst ys)))[j]? = some (some d') → ∃ d'', ρ[j]? = some (some d'') := fun j d' ej => by
      rcases key j d' ej with ⟨rfl, _⟩ | ⟨_, ej'⟩
      · exact ⟨_, hρ⟩
      · exact ⟨_, ej'⟩
    obtain ⟨d1', h1⟩ := live j d1 e1
    obtain ⟨d2', h2⟩ := live k d2 e2
    exact e.apart j k d1' d2' hjk h1 h2
  · rcases key j d' ej with ⟨rfl, rfl⟩ | ⟨hj, ej'⟩
    · exact nw _ _ hρ
    · exact nw j d' ej'
/-- what is known of an own list -/
theorem StF.own {K : PySem.W.Frag} {mg : Str → Option Value} {S0 H0 S H : Hp} {Fp : Nat → List Addr} {σ : L2.St} {ρ : Env} {i : Nat} {d : D} (st : StF K mg m S0 H0 S Fp σ ρ H) (hmd : IsOw (mdAt m i)) (hρ : ρ[i]? = some (some d)) :
    ∃ p vs ds, d = .lst ds ∧ Fp i = [p] ∧ σ[i]? = some (some (.ref p)) ∧ S p = none ∧ H p = some (.lst vs) ∧ RepL K mg S vs ds := by
  obtain ⟨v, e1, o⟩ := st.2.1.at_ i d hρ
  rcases hmd with hmd | ⟨q, hmd⟩
  · rw [hmd] at o
    obtain ⟨p, vs, ds, rfl, rfl, e3, e4, e5, e6⟩ := o
    exact ⟨p, vs, ds, rfl, e3, e1, e4, e5, e6⟩
  · rw [hmd] at o
    obtain ⟨e0, p, vs, ds, rfl, rfl, e3, e4, e5, e6⟩ := o
    exact ⟨p, vs, ds, rfl, e3, e1, e4, e5, e6⟩
theorem js_app (i : Nat) {p1 p2 p3 : Pos} (he : JE X E m .sh e f) (hmd : IsOw (mdAt m i) := by first | exact .inl rfl | exact .inr ⟨_, rfl⟩) (hl : i < m.length := by first | decide | simp) (hN : X.N[i]? = some x := by rfl) (hv : Vis X.env.scope x := by first | exact Or.inl rfl | exact Or.inr (Or.inl rfl) | exact Or.inr (Or.inr rfl))
    (hd : (x == ("__debug__" : Str)) = false := by decide) (hcd : (x == ("__classdict__" : Str)) = false := by decide)
    (hs : swapsWith (.Call (.Attribute (.Name x p1) "append" p2) [e] [] p3) none pos.line X.env = pure false := by rfl)
    (hpe : ∀ {to te : TE}, PE X (.Name x p1) to → PE X e te → PE X (.Call (.Attribute (.Name x p1) "append" p2) [e] [] p3) (tBM X.K "list" rAppend to (tCons te tNil)) := by
      intro to te ho he
      exact pe_bm PySem.F.plainAttrs_list PySem.F.slot_list_append PySem.F.type_list_append mt_append ho (pa_cons he pa_nil)) :
    JS X E L m m (.Expr (.Call (.Attribute (.Name x p1) "append" p2) [e] [] p3) pos) (fApp i f) := by
  refine ⟨PSimp (ps_expr (hpe (pe_var hN hv hd hcd) he.pe) hs) fun D σ H h => ?_⟩
  obtain ⟨S0, H0, ρ, ⟨S, Fp, st⟩, p⟩ := h
  unfold fApp at p
  split at p
  · rename_i xs exs
    obtain ⟨pa, vs, ds, eds, e1, e2, e3, e4, e5⟩ := st.own hmd exs
    cases eds
    refine ⟨_, e2, .inl ⟨rfl, vs, .inl (.inl e4)⟩, S, ρ, st.envM, (lift_post st p).post fun d v S1 H1 s1 r k => ?_⟩
    split at k
    · rename_i hz
      obtain ⟨qa, vs1, ds1, eds, q1, q2, q3, q4, q5⟩ := (st.step s1).own hmd exs
      cases eds
      obtain rfl : qa = pa := by
        rw [e2] at q2
        injection q2 with z; injection z with z; injection z with z
        exact z.symm
      refine ⟨qa, vs1, v, rfl, rfl, q4, by rw [q5.len]; exact szOk_lt hz, ?_⟩
      exact k _ _ ((st.step s1).write hl hmd exs q1 q2 q3 q4 (q5.snoc r)).stM
    · exact k.elim
  · exact p.elim
/-- x[j] = e of an own list -/
def fSetIx (i : Nat) (fe fj : Env → Res D) : FS := fun ρ => match ρ[i]? with
  | some (some (.lst xs)) => lift (fe ρ) ρ fun d => lift (fj ρ) ρ fun j => match j with
    | .int z => (match ixN xs.length z with
      | some k => .ok (.nx (ρ.set i (some (.lst (xs.set k d)))))
      | none => .er)
    | _ => .er
  | _ => .er
theorem js_setix (i : Nat) {p1 p2 : Pos} {j : Expr} {fj : Env → Res D} (he : JE X E m .sh e f) (hj : JE X E m .sh j fj) (hmd : IsOw (mdAt m i) := by first | exact .inl rfl | exact .inr ⟨_, rfl⟩) (hl : i < m.length := by first | decide | simp) (hN : X.N[i]? = some x := by rfl) (hv : Vis X.env.scope x := by first | exact Or.inl rfl | exact Or.inr (Or.inl rfl) | exact Or.inr (Or.inr rfl))
    (hd : (x == ("__debug__" : Str)) = false := by decide) (hcd : (x == ("__classdict__" : Str)) = false := by decide)
    (hps : ∀ {to ti te : TE}, PE X (.Name x p1) to → PE X j ti → PE X e te → PS X (.Assign [.Subscript (.Name x p1) j p2] e pos) (tAsg te (gSub to ti rSetL)) := by
      intro to ti te ho hi he
      exact ps_asg he (pg_sub ho hi set_list)) :
    JS X E L m m (.Assign [.Subscript (.Name x p1) j p2] e pos) (fSetIx i f fj) := by
  refine ⟨PSimp (hps (pe_var hN hv hd hcd) hj.pe he.pe) fun D σ H h => ?_⟩
  obtain ⟨S0, H0, ρ, ⟨S, Fp, st⟩, p⟩ := h
  unfold fSetIx at p
  split at p
  · rename_i xs exs
    obtain ⟨pa, vs, ds, eds, e1, e2, e3, e4, e5⟩ := st.own hmd exs
    refine ⟨S, ρ, st.envM, (lift_post st p).post fun d v S1 H1 s1 r k => ⟨_, e2, S1, ρ, (st.step s1).envM, (lift_post (st.step s1) k).post fun dj vj S2 H2 s2 rj k2 => ?_⟩⟩
    cases dj with
    | int z =>
      cases rj
      have k2 : SPost X.K X.mg E L S0 H0 m (match ixN xs.length z with
        | some k => .ok (.nx (ρ.set i (some (.lst (xs.set k d)))))
        | none => .er) D := k2
      split at k2
      · rename_i kk ek
        obtain ⟨qa, vs1, ds1, eds1, q1, q2, q3, q4, q5⟩ := ((st.step s1).step s2).own hmd exs
        cases eds1
        obtain rfl : qa = pa := by
          rw [e2] at q2
          injection q2 with z; injection z with z; injection z with z
          exact z.symm
        exact ⟨qa, vs1, z, kk, rfl, rfl, q4, by rw [q5.len]; exact ek, k2 _ _ (((st.step s1).step s2).write hl hmd exs q1 q2 q3 q4 (q5.set kk (r.mono s2.ss))).stM⟩
      · exact k2.elim
    | _ => exact k2.elim
  · exact p.elim
end
end Da
namespace Da
open PySem PySem.Spec L2
/-- the loop over the items -/
def forGo (g : D → Env → Res Env) (F : FS) : List D → FS
  | [], ρ => .ok (.nx ρ)
  | x :: xs, ρ => match g x ρ with
    | .ok ρ1 => (match F ρ1 with
      | .ok (.nx ρ2) => forGo g F xs ρ2
      | .ok (.ct ρ2) => forGo g F xs ρ2
      | .ok (.bk ρ2) => .ok (.nx ρ2)
      | o => o)
    | _ => .er
def fFor (it : Env → Res (List D)) (g : D → Env → Res Env) (F : FS) : FS := fun ρ => lift (it ρ) ρ fun xs => forGo g F xs ρ
/-- while, in at most n turns -/
def whileGo (c : Env → Res Bool) (F : FS) : Nat → FS
  | 0, _ => .er
  | n + 1, ρ => lift (c ρ) ρ fun b => if b = true then (match F ρ with
      | .ok (.nx ρ2) => whileGo c F n ρ2
      | .ok (.ct ρ2) => whileGo c F n ρ2
      | .ok (.bk ρ2) => .ok (.nx ρ2)
      | o => o) else .ok (.nx ρ)
def FUEL : Nat := 1000000000000000000
def fWhile (c : Env → Res Bool) (F : FS) : FS := whileGo c F FUEL
/-- the iterator J gives the items ds, from the view S on -/
structure WalkD (K : PySem.W.Frag) (mg : Str → Option Value) (J : It) (S : Hp) (ds : List D) : Prop where
  go : ∀ i d S1 H1, ds[i]? = some d → Same S S1 → Same S1 H1 → J.go i H1 ∧ ∀ x H2, J.yld i H1 x H2 → ∃ S2, Step S1 H1 S2 H2 ∧ Rep K mg S2 x d
  stop : ∀ S1 H1, Same S S1 → Same S1 H1 → J.stop ds.length H1
def tI (K : PySem.W.Frag) (mg : Str → Option Value) (E : WX) (m : Mds) (f : Env → Res (List D)) : TI := fun σ H R => ∃ S ρ, EnvM K mg m S H σ ρ ∧ PostW K mg (WE E σ) S H (f ρ) fun ds S' H' => ∀ J, WalkD K mg J S' ds → R J H'
structure JI (X : Cx) (E : WX) (m : Mds) (tg iter : Expr) (f : Env → Res (List D)) : Prop where
  pi : PI X tg iter (tI X.K X.mg E m f)
/-- a target takes a value -/
def tGD (K : PySem.W.Frag) (mg : Str → Option Value) (m : Mds) (ts : List Nat) (g : D → Env → Res Env) : TG := fun v σ H Q => ∃ S0 H0 S F ρ d, StF K mg m S0 H0 S F σ ρ H ∧ Rep K mg S v d ∧ (match g d ρ with
  | .ok ρ1 => ∀ σ1 S1 F1 H1, StF K mg m S0 H0 S1 F1 σ1 ρ1 H1 → Step S H S1 H1 → (σ1.length = σ.length ∧ ∀ j, j ∉ ts → σ1[j]? = σ[j]?) → Q σ1 H1
  | _ => False)
structure JG (X : Cx) (m : Mds) (ts : List Nat) (tg : Expr) (g : D → Env → Res Env) : Prop where
  pg : PG X tg (tGD X.K X.mg m ts g)
section
variable {X : Cx} {E : WX} {L : Lp} {m m1 m2 m' : Mds} {md : Md} {st : Stmt} {sts rest : List Stmt} {e a b tg iter : Expr} {f fa fb : Env → Res D} {c : Expr} {g : Env → Res Bool} {F G : FS} {pos : Pos} {x : Str} {it : Env → Res (List D)} {gt : D → Env → Res Env}
/-- a name: what it holds is shared -/
def gN (i : Nat) : D → Env → Res Env := fun d ρ => .ok (ρ.set i (some d))
theorem jg_name (i : Nat) (hN : X.N.Nodup) (hmd : mdAt m i = .sh := by rfl) (hl : i < m.length := by first | decide | simp) (hi : X.N[i]? = some x := by rfl) (hx : Loc X.env.scope x := by first | exact Or.inl rfl | exact Or.inr rfl)
    (hf : X.fn x = true ∨ X.env.scope.names.lookup x = some .local := by first | exact .inl rfl | exact .inr rfl) : JG X m [i] (.Name x pos) (gN i) := by
  refine ⟨⟨fun pins s σ H v u Q I r h => ?_⟩⟩
  refine (pg_name hN hi hx hf).run pins s σ H v u Q I r ?_
  obtain ⟨S0, H0, S, Fp, ρ, d, st, rd, p⟩ := h
  have st1 := st.set (d := d) (v := v) (md := .sh) (fp := []) hl ⟨rd, rfl⟩ List.nodup_nil (fun a z => nomatch z) (fun j e' hj ej a ha z => nomatch z)
  rw [set_sh hl hmd] at st1
  exact p _ S _ H st1 (Step.refl st.1.sub) ⟨List.length_set, fun j hj => List.getElem?_set_ne fun z => hj (by rw [z]; exact List.mem_cons_self)⟩
theorem js_for (hi : JI X E m tg iter it) {ts : List Nat} (hg : JG X m ts tg gt) (hb : JSs X E ⟨m, m, L.md⟩ m m sts F) (hp : PassesOwn (model X.prog X.w) X.A X.env X.xe) (hc : X.calm = true := by rfl)
    (hs : ∀ x, foldedSetIterable iter X.env x = pure x := by intro _; rfl) : JS X E L m m (.For tg iter sts [] pos) (fFor it gt F) := by
  refine ⟨PSimp (ps_for hp hc hi.pi hg.pg hb.ps hs) fun D σ H h => ?_⟩
  obtain ⟨S0, H0, ρ, ⟨S, Fp, st⟩, p⟩ := h
  refine ⟨S, ρ, st.envM, (lift_post st p).imp fun ds S1 H1 s1 k J w => ?_⟩
  -- from here on the entry is (S1, H0)
  have st1 := st.step s1
  refine ⟨fun i n σ H => n = ds.length - i ∧ i ≤ ds.length ∧ ∃ S2 F2 ρ2, StF X.K X.mg m S1 H0 S2 F2 σ ρ2 H ∧ SPost X.K X.mg E L S0 H0 m (forGo gt F (ds.drop i) ρ2) D, ⟨ds.length, by simp, Nat.zero_le _, S1, Fp, ρ, ⟨st1.1.fwd, st1.2⟩, k⟩, ?_⟩
  rintro i n σ2 H2 ⟨rfl, hi, S2, F2, ρ2, st2, p2⟩
  by_cases hlt : i < ds.length
  · obtain ⟨hgo, hyl⟩ := w.go i ds[i] S2 H2 (List.getElem?_eq_getElem hlt) st2.1.ss st2.1.sub
    refine .inr ⟨hgo, fun σ' H' => ∃ S3 F3 ρ3, StF X.K X.mg m S1 H0 S3 F3 σ' ρ3 H' ∧ SPost X.K X.mg E L S0 H0 m (forGo gt F (ds.drop (i + 1)) ρ3) D, fun σ' H' z => ⟨ds.length - (i + 1), by omega, rfl, hlt, z⟩, fun x H3 y => ?_⟩
    obtain ⟨S3, s3, r3⟩ := hyl x H3 y
    refine ⟨S1, H0, S3, F2, ρ2, ds[i], st2.step s3, r3, ?_⟩
    rw [List.drop_eq_getElem_cons hlt] at p2
    unfold forGo at p2
    cases eg : gt ds[i] ρ2 with
    | ok ρ3 =>
      rw [eg] at p2
      refine fun σ4 S4 F4 H4 st4 s4 _ => ⟨S1, H0, ρ3, st4.stM, ?_⟩
      have p3 : SPost X.K X.mg E L S0 H0 m (match F ρ3 with
        | .ok (.nx ρ2) => forGo gt F (ds.drop (i + 1)) ρ2
        | .ok (.ct ρ2) => forGo gt F (ds.drop (i + 1)) ρ2
        | .ok (.bk ρ2) => .ok (.nx ρ2)
        | o => o) D := p2
      cases ef : F ρ3 with
      | ok o =>
        rw [ef] at p3
        cases o with
        | nx ρ5 => exact fun σ5 H5 ⟨S5, F5, st5⟩ => ⟨S5, F5, ρ5, st5, p3⟩
        | ct ρ5 => exact fun σ5 H5 ⟨S5, F5, st5⟩ => ⟨S5, F5, ρ5, st5, p3⟩
        | bk ρ5 => exact fun σ5 H5 ⟨S5, F5, st5⟩ => p3 σ5 H5 ⟨S5, F5, st1.1.back st5.1, st5.2⟩
        | rt d => exact fun v H5 ⟨S5, fp, s5, o5⟩ => p3 v H5 ⟨S5, fp, st1.1.back s5, o5⟩
        | xc c' fs ρ5 => exact fun σ5 S5 F5 H5 cls dd st5 x5 => p3 σ5 S5 F5 H5 cls dd ⟨st1.1.back st5.1, st5.2⟩ x5
      | ex c' fs => rw [ef] at p3; exact p3
      | er => rw [ef] at p3; exact p3
    | ex c' fs => rw [eg] at p2; exact p2
    | er => rw [eg] at p2; exact p2
  · have e : i = ds.length := by omega
    subst e
    rw [List.drop_length] at p2
    exact .inl ⟨w.stop S2 H2 st2.1.ss st2.1.sub, p2 σ2 H2 ⟨S2, F2, st1.1.back st2.1, st2.2⟩⟩
theorem js_while (hc : JT X E m c g) (hb : JSs X E ⟨m, m, L.md⟩ m m sts F) (hp : PassesOwn (model X.prog X.w) X.A X.env X.xe) : JS X E L m m (.While c sts [] pos) (fWhile g F) := by
  refine ⟨PSimp (ps_while hp hc.pt hb.ps) fun D σ H h => ?_⟩
  obtain ⟨S0, H0, ρ, ⟨S, Fp, st⟩, p⟩ := h
  refine ⟨fun n σ H => ∃ S2 F2 ρ2, StF X.K X.mg m S0 H0 S2 F2 σ ρ2 H ∧ SPost X.K X.mg E L S0 H0 m (whileGo g F n ρ2) D, ⟨FUEL, S, Fp, ρ, st, p⟩, ?_⟩
  rintro n σ2 H2 ⟨S2, F2, ρ2, st2, p2⟩
  cases n with
  | zero => exact p2.elim
  | succ n =>
    unfold whileGo at p2
    have k := lift_post st2 p2
    refine ⟨S2, ρ2, st2.envM, k.imp fun b S3 H3 s3 k3 => ?_⟩
    cases b with
    | true =>
      refine ⟨fun σ' H' => ∃ S3 F3 ρ3, StF X.K X.mg m S0 H0 S3 F3 σ' ρ3 H' ∧ SPost X.K X.mg E L S0 H0 m (whileGo g F n ρ3) D, fun σ' H' z => ⟨n, Nat.lt_succ_self n, z⟩, S0, H0, ρ2, (st2.step s3).stM, ?_⟩
      have p3 : SPost X.K X.mg E L S0 H0 m (match F ρ2 with
        | .ok (.nx ρ2) => whileGo g F n ρ2
        | .ok (.ct ρ2) => whileGo g F n ρ2
        | .ok (.bk ρ2) => .ok (.nx ρ2)
        | o => o) D := k3
      cases ef : F ρ2 with
      | ok o =>
        rw [ef] at p3
        cases o with
        | nx ρ5 => exact fun σ5 H5 ⟨S5, F5, st5⟩ => ⟨S5, F5, ρ5, st5, p3⟩
        | ct ρ5 => exact fun σ5 H5 ⟨S5, F5, st5⟩ => ⟨S5, F5, ρ5, st5, p3⟩
        | bk ρ5 => exact p3
        | rt d => exact p3
        | xc c' fs ρ5 => exact p3
      | ex c' fs => rw [ef] at p3; exact p3
      | er => rw [ef] at p3; exact p3
    | false => exact k3 σ2 H3 (st2.step s3).stM
def asL : D → Res (List D)
  | .lst xs => .ok xs
  | .frl xs => .ok xs
  | .tup xs => .ok xs
  | _ => .er
theorem walk_l {K : PySem.W.Frag} {mg : Str → Option Value} {S : Hp} {a : Addr} {vs : List V} {ds : List D} (h : SqL K S a vs) (r : RepL K mg S vs ds) : WalkD K mg (Itl K a) S ds where
  go := fun i d S1 H1 e s1 s2 => by
    obtain ⟨v, ev, rv⟩ := r.get e
    refine ⟨⟨vs, v, same_l s2 (same_l s1 h), ev⟩, fun x H2 ⟨e2, y⟩ => ?_⟩
    subst e2
    have := y vs (same_l s2 (same_l s1 h))
    rw [ev] at this
    cases this
    exact ⟨S1, Step.refl s2, rv.mono s1⟩
  stop := fun S1 H1 s1 s2 => ⟨vs, same_l s2 (same_l s1 h), Nat.le_of_eq r.len⟩
theorem walk_t {K : PySem.W.Frag} {mg : Str → Option Value} {S : Hp} {a : Addr} {vs : List V} {ds : List D} (h : SqT K S a vs) (r : RepL K mg S vs ds) : WalkD K mg (Itt K a) S ds where
  go := fun i d S1 H1 e s1 s2 => by
    obtain ⟨v, ev, rv⟩ := r.get e
    refine ⟨⟨vs, v, same_t s2 (same_t s1 h), ev⟩, fun x H2 ⟨e2, y⟩ => ?_⟩
    subst e2
    have := y vs (same_t s2 (same_t s1 h))
    rw [ev] at this
    cases this
    exact ⟨S1, Step.refl s2, rv.mono s1⟩
  stop := fun S1 H1 s1 s2 => ⟨vs, same_t s2 (same_t s1 h), Nat.le_of_eq r.len⟩
def iSeq (K : PySem.W.Frag) (tl : TE) : TI := fun σ H R => tl σ H fun x H1 => ∃ a, x = .ref a ∧ ((∃ xs, SqL K H1 a xs) ∧ R (Itl K a) H1 ∨ (∃ xs, SqT K H1 a xs) ∧ R (Itt K a) H1)
theorem pi_seq {l : Expr} {tl : TE} (hl : PE X l tl) : PI X tg l (iSeq X.K tl) := by
  refine ⟨fun pins s σ H R I h => thn (hl.run pins s σ H _ I h) fun v s1 hv => ?_⟩
  obtain ⟨y, Hy, Iy, ry, a, rfl, q⟩ := hv
  cases ry
  have fresh : ∀ b, b ∈ [s1.heap.objs.size] → FpOk X pins Hy b := fun b hb => by
    rw [List.mem_singleton.mp hb]
    exact Iy.fpOk (Nat.le_refl _) (Iy.hok.fresh (Nat.le_refl _))
  rcases q with ⟨⟨xs, hq⟩, q⟩ | ⟨⟨xs, hq⟩, q⟩
  · obtain ⟨its, _, pl, _⟩ := Iy.list hq
    refine wpAny_pyIter_list pl.isList ⟨_, [_], _, Itl X.K a, Hy, rfl, ?_, turn_list a _, ?_, fresh, q⟩
    · exact Iy.kept (t' := s1.toks) fun b o e => Heap.get?_push_of_some _ e
    · exact ⟨_, Heap.get?_push_size _ rfl, rfl, rfl⟩
  · obtain ⟨its, _, pl, _⟩ := Iy.tuple hq
    refine wpAny_pyIter_tuple (show s1.heap.IsTuple a its.toArray from pl) ⟨_, [_], _, Itt X.K a, Hy, rfl, ?_, turn_tuple a _, ?_, fresh, q⟩
    · exact Iy.kept (t' := s1.toks) fun b o e => Heap.get?_push_of_some _ e
    · exact ⟨_, Heap.get?_push_size _ rfl, rfl, rfl⟩
def fL (f : Env → Res D) : Env → Res (List D) := fun ρ => (f ρ).bind asL
theorem ji_seq (he : JE X E m .sh e f) : JI X E m tg e (fL f) := by
  refine ⟨⟨fun pins s σ H R I h => (pi_seq he.pe).run pins s σ H R I ?_⟩⟩
  obtain ⟨S, ρ, hm, hp⟩ := h
  refine ⟨S, ρ, hm, (PostW.bind hp).post fun d v S1 H1 s1 r k => ?_⟩
  cases d with
  | lst xs =>
    obtain ⟨a, vs, rfl, ha, rv⟩ := r.of_lst
    exact ⟨a, rfl, .inl ⟨⟨vs, .inl (.inl (s1.sub _ _ ha))⟩, k S1 H1 (Step.refl s1.sub) _ (walk_l (.inl (.inl ha)) rv)⟩⟩
  | frl xs =>
    obtain ⟨a, vs, rfl, ha, rv⟩ := r.of_frl
    exact ⟨a, rfl, .inl ⟨⟨vs, same_l s1.sub ha⟩, k S1 H1 (Step.refl s1.sub) _ (walk_l ha rv)⟩⟩
  | tup xs =>
    obtain ⟨a, vs, rfl, ha, rv⟩ := r.of_tup
    exact ⟨a, rfl, .inr ⟨⟨vs, same_t s1.sub ha⟩, k S1 H1 (Step.refl s1.sub) _ (walk_t ha rv)⟩⟩
  | _ => exact k.elim
def rng (lo : Int) (n : Nat) : List D := (List.range n).map fun (i : Nat) => D.int (lo + i)
theorem walk_r {K : PySem.W.Frag} {mg : Str → Option Value} {S : Hp} (lo : Int) (n : Nat) : WalkD K mg (Itr lo n) S (rng lo n) where
  go := fun i d S1 H1 e s1 s2 => by
    unfold rng at e
    rw [List.getElem?_map] at e
    have hi : i < n := by
      cases q : (List.range n)[i]? with
      | none => rw [q] at e; cases e
      | some j =>
        have := (List.getElem?_eq_some_iff.mp q).1
        rwa [List.length_range] at this
    rw [List.getElem?_range hi] at e
    cases e
    exact ⟨hi, fun x H2 ⟨e2, y⟩ => by subst e2 y; exact ⟨S1, Step.refl s2, .int _⟩⟩
  stop := fun S1 H1 s1 s2 => by
    show n ≤ (rng lo n).length
    unfold rng
    rw [List.length_map, List.length_range]
    exact Nat.le_refl _
def rngOk (i j : Int) : Bool := stuck (-(4611686018427387904) ≤ i ∧ i < 4611686018427387904 ∧ -(4611686018427387904) ≤ j ∧ j < 4611686018427387904)
theorem rngOk_ok {i j : Int} (h : rngOk i j = true) : -(2 ^ 62) ≤ i ∧ i < 2 ^ 62 ∧ -(2 ^ 62) ≤ j ∧ j < 2 ^ 62 := by
  obtain ⟨h1, h2, h3, h4⟩ := stuck_iff.mp h
  have e : (2 : Int) ^ 62 = 4611686018427387904 := by decide
  rw [e]
  exact ⟨h1, h2, h3, h4⟩
def gRng1 : List D → Res (List D)
  | [.int j] => if rngOk 0 j = true then .ok (rng 0 j.toNat) else .er
  | _ => .er
def gRng2 : List D → Res (List D)
  | [.int i, .int j] => if rngOk i j = true then .ok (rng i (j - i).toNat) else .er
  | _ => .er
theorem gRng1_ok {ds xs : List D} (h : gRng1 ds = .ok xs) : ∃ j, ds = [.int j] ∧ rngOk 0 j = true ∧ xs = rng 0 j.toNat := by
  unfold gRng1 at h
  split at h
  · rename_i j
    split at h
    · rename_i hk
      injection h with h
      exact ⟨j, rfl, hk, h.symm⟩
    · cases h
  · cases h
theorem gRng2_ok {ds xs : List D} (h : gRng2 ds = .ok xs) : ∃ i j, ds = [.int i, .int j] ∧ rngOk i j = true ∧ xs = rng i (j - i).toNat := by
  unfold gRng2 at h
  split at h
  · rename_i i j
    split at h
    · rename_i hk
      injection h with h
      exact ⟨i, j, rfl, hk, h.symm⟩
    · cases h
  · cases h
theorem gRng1_ex {ds : List D} {c : Str} {fs : List (Str × D)} : gRng1 ds ≠ .ex c fs := by
  unfold gRng1
  split
  · split <;> exact fun z => nomatch z
  · exact fun z => nomatch z
theorem gRng2_ex {ds : List D} {c : Str} {fs : List (Str × D)} : gRng2 ds ≠ .ex c fs := by
  unfold gRng2
  split
  · split <;> exact fun z => nomatch z
  · exact fun z => nomatch z
def fR1 (fs : Env → Res (List D)) : Env → Res (List D) := fun ρ => (fs ρ).bind gRng1
def fR2 (fs : Env → Res (List D)) : Env → Res (List D) := fun ρ => (fs ρ).bind gRng2
theorem PostW.of_if {α : Type} {K : PySem.W.Frag} {mg : Str → Option Value} {E : XK} {S H : Hp} {r : Res α} {c : Bool} {k : α → Hp → Hp → Prop} (h : PostW K mg E S H (if c = true then r else .er) k) : c = true ∧ PostW K mg E S H r k := by
  split at h
  · rename_i hc; exact ⟨hc, h⟩
  · exact h.elim
theorem RepL.int1 {K : PySem.W.Frag} {mg : Str → Option Value} {S : Hp} {vs : List V} {j : Int} (r : RepL K mg S vs [.int j]) : vs = [.int j] := RepL.ints (ns := [j]) r
theorem RepL.int2 {K : PySem.W.Frag} {mg : Str → Option Value} {S : Hp} {vs : List V} {i j : Int} (r : RepL K mg S vs [.int i, .int j]) : vs = [.int i, .int j] := RepL.ints (ns := [i, j]) r
theorem PostW.okOf {α : Type} {K : PySem.W.Frag} {mg : Str → Option Value} {E : XK} {S H : Hp} {r : Res α} {k : α → Hp → Hp → Prop} (h : PostW K mg E S H r k) (hx : ∀ c fs, r ≠ .ex c fs) : ∃ a, r = .ok a ∧ ∀ S' H', Step S H S' H' → k a S' H' := by
  cases r with
  | ok a => exact ⟨a, rfl, h⟩
  | ex c fs => exact absurd rfl (hx c fs)
  | er => exact h.elim
theorem ji_range1 {fs : Env → Res (List D)} {p : Pos} (ha : JA X E m [a] fs) (hm : X.mg "range" = none) (hg : Gl X "range" := by rfl) (hs : starEach [a] X.env = [(false, eval a X.env)] := by rfl) : JI X E m tg (.Call (.Name "range" p) [a] [] pos) (fR1 fs) := by
  refine ⟨⟨fun pins s σ H R I h => (pi_range1 hg hm ha.pa hs).run pins s σ H R I ?_⟩⟩
  obtain ⟨S, ρ, hm, hp⟩ := h
  refine ⟨S, ρ, hm, (PostW.bind hp).imp fun ds S1 H1 s1 k vs rv => ?_⟩
  obtain ⟨xs, e, k⟩ := PostW.okOf k fun _ _ => gRng1_ex
  obtain ⟨j, rfl, hk, rfl⟩ := gRng1_ok e
  obtain ⟨_, _, h3, h4⟩ := rngOk_ok hk
  exact ⟨j, rv.int1, h3, h4, k S1 H1 (Step.refl s1.sub) _ (walk_r 0 j.toNat)⟩
theorem ji_range2 {fs : Env → Res (List D)} {p : Pos} (ha : JA X E m [a, b] fs) (hm : X.mg "range" = none) (hg : Gl X "range" := by rfl) (hs : starEach [a, b] X.env = [(false, eval a X.env), (false, eval b X.env)] := by rfl) (hs2 : starEach [b] X.env = [(false, eval b X.env)] := by rfl) :
    JI X E m tg (.Call (.Name "range" p) [a, b] [] pos) (fR2 fs) := by
  refine ⟨⟨fun pins s σ H R I h => (pi_range2 hg hm ha.pa hs hs2).run pins s σ H R I ?_⟩⟩
  obtain ⟨S, ρ, hm, hp⟩ := h
  refine ⟨S, ρ, hm, (PostW.bind hp).imp fun ds S1 H1 s1 k vs rv => ?_⟩
  obtain ⟨xs, e, k⟩ := PostW.okOf k fun _ _ => gRng2_ex
  obtain ⟨i, j, rfl, hk, rfl⟩ := gRng2_ok e
  exact ⟨i, j, rv.int2, rngOk_ok hk, k S1 H1 (Step.refl s1.sub) _ (walk_r i (j - i).toNat)⟩
end
end Da
namespace Da
open PySem PySem.Spec L2
def chk (n : Nat) (f : List D → Res D) : List D → Res D := fun ds => if ds.length = n then f ds else .er
/-- what a def promises: it does to data what f does -/
def spD (K : PySem.W.Frag) (mg : Str → Option Value) (np : Nat) (md : Md) (f : List D → Res D) : Sp := fun vs H Q E => ∃ S ds, Same S H ∧ RepL K mg S vs ds ∧ Post K mg E S H md (chk np f ds) Q
def startE (n : Nat) (ds : List D) : Env := ds.map some ++ List.replicate (n - ds.length) none
/-- a body's run -/
def runF (n : Nat) (md : Md) (F : FS) (ds : List D) : Res D := match F (startE n ds) with
  | .ok (.rt d) => .ok d
  | .ok (.nx _) => if md = .sh then .ok .non else .er
  | .ok (.xc c fs _) => .ex c fs
  | _ => .er
abbrev msh (n : Nat) : Mds := List.replicate n .sh
theorem mdAt_msh {n i : Nat} : mdAt (msh n) i = .sh := by
  unfold mdAt
  rw [List.getD_eq_getElem?_getD, List.getElem?_replicate]
  split <;> rfl
theorem Post.chkd {K : PySem.W.Frag} {mg : Str → Option Value} {E : XK} {S H : Hp} {md : Md} {np : Nat} {f : List D → Res D} {ds : List D} {Q : VK} (h : Post K mg E S H md (chk np f ds) Q) : ds.length = np ∧ Post K mg E S H md (f ds) Q := by
  unfold chk at h
  split at h
  · rename_i e; exact ⟨e, h⟩
  · exact h.elim
section
variable {P : Program} {w : World} {K : PySem.W.Frag} {mg : Str → Option Value} {base : Heap}
theorem fn_ok {x qual : Str} {st : Stmt} {f : Addr} {fd : FuncData} {N ps : List Str} {k : Nat} {md : Md} {m' : Mds} {F : FS} (Fn : Fun K x qual st f fd) (Sc : FnScope N ps (defScope st)) (hnp : ps.length ≤ N.length)
    (h : ∀ (cdv : Value) (A : Around) (outer : List PySem.Env) (s : Shared) (H : Hp) (E : XK), Room k (A.deeper (PyProof.Rows.envOfC qual (defScope st) s.heap.objs.size f cdv)) →
      JSs (cxOf (L2.CX P w) P w K mg base N qual (defScope st) f cdv A outer s H E) (fun cls d _ H => E cls d H) ⟨[], [], md⟩ (msh N.length) m' (defBody st) F) :
    FnOk P w K mg base (L2.CX P w) (k + 1) f fd ps (spD K mg ps.length md (runF N.length md F)) := by
  refine Fn.okX Sc (fun vs H Q E hsp => ?_) (fun cdv A outer s H vs Q E hr hsp => ?_)
  · obtain ⟨S, ds, hs, rv, hp⟩ := hsp
    rw [rv.len]
    exact hp.chkd.1
  · obtain ⟨S, ds, hs, rv, hp⟩ := hsp
    obtain ⟨hl, hp⟩ := hp.chkd
    refine ⟨_, (h cdv A outer s H E hr).ps, S, H, startE N.length ds, ⟨S, fun _ => [], Step.refl hs, ⟨?_, fun i d e => ?_, fun i d e => List.nodup_nil, fun i j d e _ _ _ a ha => nomatch ha⟩, fun i d e a ha => nomatch ha⟩, ?_⟩
    · unfold startE L2.start
      rw [List.length_append, List.length_append, List.length_map, List.length_map, List.length_replicate, List.length_replicate, rv.len]
    · unfold startE at e
      by_cases hi : i < ds.length
      · rw [List.getElem?_append_left (by rw [List.length_map]; exact hi), List.getElem?_map, List.getElem?_eq_getElem hi] at e
        have e' : ds[i] = d := by injection e with e; injection e
        obtain ⟨v, ev, r⟩ := rv.get (List.getElem?_eq_getElem hi)
        refine ⟨v, ?_, ?_⟩
        · unfold L2.start
          rw [List.getElem?_append_left (by rw [List.length_map, rv.len]; exact hi), List.getElem?_map, ev]
          rfl
        · rw [mdAt_msh, ← e']
          exact ⟨r, rfl⟩
      · rw [List.getElem?_append_right (by rw [List.length_map]; omega), List.getElem?_replicate] at e
        split at e <;> cases e
    · unfold runF at hp
      cases ef : F (startE N.length ds) with
      | ok o =>
        rw [ef] at hp
        cases o with
        | nx ρ =>
          intro σ' H' ⟨S', F', st'⟩
          simp only at hp
          split at hp
          · rename_i hmd
            subst hmd
            exact hp .non S' H' [] st'.1 ⟨.non, rfl⟩ List.nodup_nil (fun a z => nomatch z)
          · exact hp.elim
        | rt d => exact fun v H' ⟨S', fp, s', o', n', f'⟩ => hp v S' H' fp s' o' n' f'
        | bk ρ => exact hp.elim
        | ct ρ => exact hp.elim
        | xc c fs ρ => exact fun σ' S' F' H' cls dd st' x' => hp S' H' cls dd st'.1 x'
      | ex c fs => rw [ef] at hp; exact hp.elim
      | er => rw [ef] at hp; exact hp.elim
end
section
variable {X : Cx} {E : WX} {m : Mds} {md : Md} {a b e : Expr} {es : List Expr} {fa fb : Env → Res D} {fs : Env → Res (List D)} {pos p : Pos} {x : Str} {k np : Nat} {f : Addr} {fd : FuncData} {ps : List Str} {g : List D → Res D}
/-- the def of this name keeps its promise -/
def Keeps (P : Program) (w : World) (K : PySem.W.Frag) (mg : Str → Option Value) (base : Heap) (x : Str) (k : Nat) (ps : List Str) (np : Nat) (md : Md) (g : List D → Res D) : Prop :=
  ∃ f fd, mg x = some (.ref f) ∧ PySem.W.keepIn K (.ref f) = true ∧ Binds K fd ps [] ∧ FnOk P w K mg base (L2.CX P w) k f fd ps (spD K mg np md g)
/-- the def of this name as it stands behind the top -/
def DefAt (K : PySem.W.Frag) (mg : Str → Option Value) (x qual : Str) (st : Stmt) (ps : List Str) : Prop := ∃ f fd, Fun K x qual st f fd ∧ Binds K fd ps [] ∧ mg x = some (.ref f)
theorem keeps_of {P : Program} {w : World} {K : PySem.W.Frag} {mg : Str → Option Value} {base : Heap} {x qual : Str} {st : Stmt} {ps N : List Str} {k : Nat} {md : Md} {F : FS} (dA : DefAt K mg x qual st ps) (Sc : FnScope N ps (defScope st)) (hnp : ps.length ≤ N.length)
    (h : ∀ (f : Addr) (cdv : Value) (A : Around) (outer : List PySem.Env) (s : Shared) (H : Hp) (E : XK), Room k (A.deeper (PyProof.Rows.envOfC qual (defScope st) s.heap.objs.size f cdv)) →
      JSs (cxOf (L2.CX P w) P w K mg base N qual (defScope st) f cdv A outer s H E) (fun cls d _ H => E cls d H) ⟨[], [], md⟩ (msh N.length) (msh N.length) (defBody st) F) : Keeps P w K mg base x (k + 1) ps ps.length md (runF N.length md F) := by
  obtain ⟨f, fd, Fn, bd, gl⟩ := dA
  exact ⟨f, fd, gl, Fn.kp, bd, fn_ok Fn Sc hnp (h f)⟩
/-- of what never gives anything -/
theorem keeps_er {P : Program} {w : World} {K : PySem.W.Frag} {mg : Str → Option Value} {base : Heap} {x qual : Str} {st : Stmt} {ps : List Str} {k np : Nat} {md : Md} (dA : DefAt K mg x qual st ps) : Keeps P w K mg base x k ps np md (fun _ => .er) := by
  obtain ⟨f, fd, Fn, bd, gl⟩ := dA
  have no : ∀ vs H Q E, spD K mg np md (fun _ => .er) vs H Q E → False := fun vs H Q E ⟨S, ds, hs, rv, hp⟩ => hp.chkd.2
  exact ⟨f, fd, gl, Fn.kp, bd, ⟨fun vs H Q E h => (no vs H Q E h).elim, fun A outer s H args us vs Q E hr he hb hv h => (no vs H Q E h).elim⟩⟩
theorem Keeps.mono {P : Program} {w : World} {K : PySem.W.Frag} {mg : Str → Option Value} {base : Heap} {x : Str} {ps : List Str} {k k' np : Nat} {md : Md} {g : List D → Res D} (G : Keeps P w K mg base x k ps np md g) (h : k ≤ k') : Keeps P w K mg base x k' ps np md g := by
  obtain ⟨f, fd, e1, e2, e3, G⟩ := G
  exact ⟨f, fd, e1, e2, e3, G.mono h⟩
theorem je_call (G : Keeps X.prog X.w X.K X.mg X.base x k ps np md g) (hr : Room k X.A) (tk : Takes X E)
    (ha : JA X E m (e :: es) fs) (hg : Gl X x := by rfl) (hdb : (x == ("__debug__" : Str)) = false := by decide) (he : starEach (e :: es) X.env = (false, eval e X.env) :: starEach es X.env := by rfl) (hpl : (backTo pos (starEach es X.env)).any (·.1) = false := by rfl) :
    JE X E m md (.Call (.Name x p) (e :: es) [] pos) (fOn (chk np g) fs) := by
  obtain ⟨f, fd, hm, hk, hb, G⟩ := G
  refine ⟨PEimp (pe_callS G hr hg hm hk hb (fun σ => passAt tk σ) ha.pa hdb he hpl) fun σ H Q h => ?_⟩
  obtain ⟨S, ρ, hm, hp⟩ := h
  exact ⟨S, ρ, hm, (Post.bind hp).imp fun ds S1 H1 s1 h1 vs rs => ⟨S1, ds, s1.sub, rs, h1⟩⟩
/-- an own new list that is not kept as one's own -/
theorem je_share (h : JE X E m md e fa) : JE X E m .sh e fa := by
  refine ⟨PEimp h.pe fun σ H Q q => ?_⟩
  obtain ⟨S, ρ, hm, hp⟩ := q
  refine ⟨S, ρ, hm, ?_⟩
  cases ef : fa ρ with
  | ok d =>
    rw [ef] at hp
    intro v S1 H1 fp s1 o hn hf
    let A : Addr → Prop := fun a => a ∈ fp
    have ho : ∀ a, A a → S1 a = none := fun a ha => (o.out ha).1
    refine hp v (take S1 H1 A) H1 [] ⟨s1.hh, s1.ss.trans (take_same s1.sub ho), take_sub s1.sub, fun a x => ?_⟩ ⟨o.shared s1.sub ho fun a ha => ha, rfl⟩ List.nodup_nil (fun a z => nomatch z)
    by_cases z : A a
    · exact .inr (hf a z)
    · rw [take_out z] at x
      exact s1.new a x
  | ex c fs => rw [ef] at hp; exact hp
  | er => rw [ef] at hp; exact hp.elim
end
section
variable {K : PySem.W.Frag} {mg : Str → Option Value}
theorem repl1 {S : Hp} {vs : List V} {d : D} (r : RepL K mg S vs [d]) : ∃ v, vs = [v] ∧ Rep K mg S v d := by
  match vs, r with
  | [], r => have := r.len; simp at this
  | [v], r => exact ⟨v, rfl, r.head⟩
  | _ :: _ :: _, r => have := r.len; simp at this
theorem repl2 {S : Hp} {vs : List V} {d e : D} (r : RepL K mg S vs [d, e]) : ∃ v w, vs = [v, w] ∧ Rep K mg S v d ∧ Rep K mg S w e := by
  match vs, r with
  | [], r => have := r.len; simp at this
  | [v], r => have := r.len; simp at this
  | [v, w], r => exact ⟨v, w, rfl, r.head, r.tail.head⟩
  | _ :: _ :: _ :: _, r => have := r.len; simp at this
/-- a rule of one argument -/
def on1 (g : D → Res D) : List D → Res D
  | [d] => g d
  | _ => .er
def on2 (g : D → D → Res D) : List D → Res D
  | [d, e] => g d e
  | _ => .er
theorem calld1 {md : Md} {r : List V → Hp → VK → Prop} {g : D → Res D} (h : ∀ (E : XK) (S H : Hp) (x : V) (d : D) (Q : VK), Same S H → Rep K mg S x d → Post K mg E S H md (g d) Q → r [x] H Q) : CallD K mg md r (on1 g) := by
  intro E S H xs ds Q hs rv hp
  match ds with
  | [] => exact hp.elim
  | [d] =>
    obtain ⟨v, rfl, rd⟩ := repl1 rv
    exact h E S H v d Q hs rd hp
  | _ :: _ :: _ => exact hp.elim
theorem calld2 {md : Md} {r : List V → Hp → VK → Prop} {g : D → D → Res D} (h : ∀ (E : XK) (S H : Hp) (x y : V) (d e : D) (Q : VK), Same S H → Rep K mg S x d → Rep K mg S y e → Post K mg E S H md (g d e) Q → r [x, y] H Q) : CallD K mg md r (on2 g) := by
  intro E S H xs ds Q hs rv hp
  match ds with
  | [] => exact hp.elim
  | [d] => exact hp.elim
  | [d, e] =>
    obtain ⟨v, w, rfl, rd, re⟩ := repl2 rv
    exact h E S H v w d e Q hs rd re hp
  | _ :: _ :: _ :: _ => exact hp.elim
def dLen : D → Res D
  | .lst xs => .ok (.int xs.length)
  | .frl xs => .ok (.int xs.length)
  | .tup xs => .ok (.int xs.length)
  | .str z => if szOk z.length = true then .ok (.int z.length) else .er
  | _ => .er
theorem calld_len : CallD K mg .sh (fun xs H Q => ∃ x n, xs = [x] ∧ LenV K x H n ∧ Q (.int n) H) (on1 dLen) := calld1 fun E S H x d Q hs rx hp => by
  cases d with
  | lst ds =>
    obtain ⟨a, vs, rfl, ha, rv⟩ := rx.of_lst
    exact ⟨_, vs.length, rfl, .inl ⟨_, .inl (.inl (hs _ _ ha)), rfl⟩, by rw [rv.len]; exact Post.val hp hs (.int _)⟩
  | frl ds =>
    obtain ⟨a, vs, rfl, ha, rv⟩ := rx.of_frl
    exact ⟨_, vs.length, rfl, .inl ⟨_, same_l hs ha, rfl⟩, by rw [rv.len]; exact Post.val hp hs (.int _)⟩
  | tup ds =>
    obtain ⟨a, vs, rfl, ha, rv⟩ := rx.of_tup
    exact ⟨_, vs.length, rfl, .inr ⟨_, same_t hs ha, rfl⟩, by rw [rv.len]; exact Post.val hp hs (.int _)⟩
  | str z =>
    obtain ⟨hz, hp⟩ := Post.of_if hp
    cases rx
    exact ⟨_, z.length, rfl, ⟨szOk_ok hz, rfl⟩, hp.val hs (.int _)⟩
  | _ => exact hp.elim
def dInt : D → Res D
  | .int i => .ok (.int i)
  | .bl b => .ok (.int (if b then 1 else 0))
  | _ => .er
def dAbs : D → Res D
  | .int i => .ok (.int (if i < 0 then -i else i))
  | _ => .er
def dMax2 : D → D → Res D
  | .int i, .int j => .ok (.int (if j > i then j else i))
  | _, _ => .er
def dMin2 : D → D → Res D
  | .int i, .int j => .ok (.int (if j < i then j else i))
  | _, _ => .er
end
section
variable {X : Cx} {E : WX} {m : Mds} {md : Md} {a b e : Expr} {es : List Expr} {fs : Env → Res (List D)} {pos p : Pos}
theorem je_len (hm : X.mg "len" = none) (ha : JA X E m [e] fs) (hg : Gl X "len" := by rfl) (he : starEach [e] X.env = (false, eval e X.env) :: starEach [] X.env := by rfl) : JE X E m .sh (.Call (.Name "len" p) [e] [] pos) (fOn (on1 dLen) fs) :=
  je_callB call_len calld_len hm ha hg boot_len (by decide) (by decide) he (by rfl)
theorem je_int_ (hm : X.mg "int" = none) (ha : JA X E m [e] fs) (hg : Gl X "int" := by rfl) (he : starEach [e] X.env = (false, eval e X.env) :: starEach [] X.env := by rfl) : JE X E m .sh (.Call (.Name "int" p) [e] [] pos) (fOn (on1 dInt) fs) :=
  je_callTy call_int1 (calld1 fun E S H x d Q hs rx hp => by
    cases d with
    | int i => cases rx; exact .inl ⟨i, rfl, Post.val hp hs (.int _)⟩
    | bl i => cases rx; exact .inr ⟨i, rfl, Post.val hp hs (.int _)⟩
    | _ => exact hp.elim) hm ha hg (by decide +kernel) (by decide) (by decide) he (by rfl)
theorem je_abs (hm : X.mg "abs" = none) (ha : JA X E m [e] fs) (hg : Gl X "abs" := by rfl) (he : starEach [e] X.env = (false, eval e X.env) :: starEach [] X.env := by rfl) : JE X E m .sh (.Call (.Name "abs" p) [e] [] pos) (fOn (on1 dAbs) fs) :=
  je_callB call_abs (calld1 fun E S H x d Q hs rx hp => by
    cases d with
    | int i => cases rx; exact ⟨i, rfl, Post.val hp hs (.int _)⟩
    | _ => exact hp.elim) hm ha hg (by decide +kernel) (by decide) (by decide) he (by rfl)
theorem je_max2 (hm : X.mg "max" = none) (ha : JA X E m [a, b] fs) (hc : X.calm = true := by rfl) (hg : Gl X "max" := by rfl) (he : starEach [a, b] X.env = (false, eval a X.env) :: starEach [b] X.env := by rfl) (hpl : (backTo pos (starEach [b] X.env)).any (·.1) = false := by rfl) : JE X E m .sh (.Call (.Name "max" p) [a, b] [] pos) (fOn (on2 dMax2) fs) :=
  je_callB (call_max2 hc) (calld2 fun E S H x y d e Q hs rx ry hp => by
    cases d with
    | int i =>
      cases e with
      | int j => cases rx; cases ry; exact ⟨i, j, rfl, Post.val hp hs (.int _)⟩
      | _ => exact hp.elim
    | _ => exact hp.elim) hm ha hg (by decide +kernel) (by decide) (by decide) he hpl
theorem je_min2 (hm : X.mg "min" = none) (ha : JA X E m [a, b] fs) (hc : X.calm = true := by rfl) (hg : Gl X "min" := by rfl) (he : starEach [a, b] X.env = (false, eval a X.env) :: starEach [b] X.env := by rfl) (hpl : (backTo pos (starEach [b] X.env)).any (·.1) = false := by rfl) : JE X E m .sh (.Call (.Name "min" p) [a, b] [] pos) (fOn (on2 dMin2) fs) :=
  je_callB (call_min2 hc) (calld2 fun E S H x y d e Q hs rx ry hp => by
    cases d with
    | int i =>
      cases e with
      | int j => cases rx; cases ry; exact ⟨i, j, rfl, Post.val hp hs (.int _)⟩
      | _ => exact hp.elim
    | _ => exact hp.elim) hm ha hg (by decide +kernel) (by decide) (by decide) he hpl
end
end Da
namespace Da
open PySem PySem.Spec L2
mutual
def D.py : D → Option PyData
  | .non => some .none
  | .bl b => some (.bool b)
  | .int i => some (.int i)
  | .str x => some (.str x)
  | .lst xs => match D.pys xs with
    | some ys => some (.list ys)
    | none => none
  | .tup xs => match D.pys xs with
    | some ys => some (.tuple ys)
    | none => none
  | _ => none
def D.pys : List D → Option (List PyData)
  | [] => some []
  | x :: xs => match D.py x, D.pys xs with
    | some y, some ys => some (y :: ys)
    | _, _ => none
end
section
variable {K : PySem.W.Frag} {mg : Str → Option Value} {S : Hp}
mutual
theorem dp_of : ∀ (d : D) (v : V) (y : PyData), Rep K mg S v d → D.py d = some y → Dp K S v y
  | .non, v, y, h, e => by cases h; cases e; exact .non
  | .bl b, v, y, h, e => by cases h; cases e; exact .bl b
  | .int i, v, y, h, e => by cases h; cases e; exact .int i
  | .str x, v, y, h, e => by cases h; cases e; exact .str x
  | .lst xs, v, y, h, e => by
    unfold D.py at e
    split at e
    · rename_i ys ey
      cases e
      obtain ⟨a, vs, rfl, ha, r⟩ := h.of_lst
      exact .lst (.inl (.inl ha)) (dps_of xs vs ys r ey)
    · cases e
  | .tup xs, v, y, h, e => by
    unfold D.py at e
    split at e
    · rename_i ys ey
      cases e
      obtain ⟨a, vs, rfl, ha, r⟩ := h.of_tup
      exact .tup ha (dps_of xs vs ys r ey)
    · cases e
  | .frl xs, v, y, h, e => by simp [D.py] at e
  | .dic ks vs, v, y, h, e => by simp [D.py] at e
  | .dit ks vs, v, y, h, e => by simp [D.py] at e
  | .obj c ns vs, v, y, h, e => by simp [D.py] at e
theorem dps_of : ∀ (ds : List D) (vs : List V) (ys : List PyData), RepL K mg S vs ds → D.pys ds = some ys → DpAll K S vs ys
  | [], vs, ys, r, e => by
    cases e
    rw [r.nil_iff.mpr rfl]
    exact .nil
  | d :: ds, vs, ys, r, e => by
    unfold D.pys at e
    split at e
    · rename_i y ys' e1 e2
      cases e
      match vs, r with
      | [], r => have := r.len; simp at this
      | v :: vs, r => exact .cons (dp_of d v y r.head e1) (dps_of ds vs ys' r.tail e2)
    · cases e
end
theorem dp_mono {H : Hp} (h : Same S H) : ∀ {v : V} {y : PyData}, Dp K S v y → Dp K H v y := fun {v y} x => Dp.rec (motive_1 := fun v y _ => Dp K H v y) (motive_2 := fun vs ys _ => DpAll K H vs ys)
  .non .bl .int .str (fun a _ ih => .lst (same_l h a) ih) (fun a _ ih => .tup (same_t h a) ih) .nil (fun _ _ a b => .cons a b) x
end
/-- are they equal -/
def eqD (x y : D) : Res Bool := match D.py x, D.py y with
  | some a, some b => if (SeqAt.shaped a && SeqAt.shaped b) = true then .ok (PyData.eqv a b) else .er
  | _, _ => .er
def dEq (x y : D) : Res D := (eqD x y).bind fun b => .ok (.bl b)
def dNe (x y : D) : Res D := (eqD x y).bind fun b => .ok (.bl (!b))
/-- is one among them -/
def inD (x : D) (ys : List D) : Res Bool := match D.py x, D.pys ys with
  | some a, some bs => if (SeqAt.shaped a && SeqAt.shaped (.list bs)) = true then .ok (bs.any fun z => PyData.eqv z a) else .er
  | _, _ => .er
def dIn (x y : D) : Res D := match y with
  | .lst ys => (inD x ys).bind fun b => .ok (.bl b)
  | .tup ys => (inD x ys).bind fun b => .ok (.bl b)
  | _ => .er
def dNotIn (x y : D) : Res D := match y with
  | .lst ys => (inD x ys).bind fun b => .ok (.bl (!b))
  | .tup ys => (inD x ys).bind fun b => .ok (.bl (!b))
  | _ => .er
section
variable {K : PySem.W.Frag} {mg : Str → Option Value} {E : XK} {S H : Hp}
theorem eqD_ok {x y : D} {r : Bool → Res D} {Q : VK} (h : Post K mg E S H .sh ((eqD x y).bind r) Q) : ∃ a b, D.py x = some a ∧ D.py y = some b ∧ SeqAt.shaped a = true ∧ SeqAt.shaped b = true ∧ Post K mg E S H .sh (r (PyData.eqv a b)) Q := by
  unfold eqD at h
  split at h
  · rename_i a b ea eb
    split at h
    · rename_i hs
      have hs := Bool.and_eq_true_iff.mp hs
      exact ⟨a, b, ea, eb, hs.1, hs.2, h⟩
    · exact h.elim
  · exact h.elim
theorem inD_ok {x : D} {ys : List D} {r : Bool → Res D} {Q : VK} (h : Post K mg E S H .sh ((inD x ys).bind r) Q) : ∃ a bs, D.py x = some a ∧ D.pys ys = some bs ∧ SeqAt.shaped a = true ∧ SeqAt.shaped (.list bs) = true ∧ Post K mg E S H .sh (r (bs.any fun z => PyData.eqv z a)) Q := by
  unfold inD at h
  split at h
  · rename_i a b ea eb
    split at h
    · rename_i hs
      have hs := Bool.and_eq_true_iff.mp hs
      exact ⟨a, b, ea, eb, hs.1, hs.2, h⟩
    · exact h.elim
  · exact h.elim
theorem opd_eq : OpD K mg .sh (rEqD K) dEq := by
  intro E S H x y dx dy Q hs rx ry h
  obtain ⟨a, b, ea, eb, sa, sb, h⟩ := eqD_ok h
  exact ⟨a, b, dp_mono hs (dp_of dx x a rx ea), dp_mono hs (dp_of dy y b ry eb), sa, sb, Post.val h hs (.bl _)⟩
theorem opd_ne : OpD K mg .sh (rNeD K) dNe := by
  intro E S H x y dx dy Q hs rx ry h
  obtain ⟨a, b, ea, eb, sa, sb, h⟩ := eqD_ok h
  exact ⟨a, b, dp_mono hs (dp_of dx x a rx ea), dp_mono hs (dp_of dy y b ry eb), sa, sb, Post.val h hs (.bl _)⟩
end
theorem canLayL {bs : List PyData} (h : SeqAt.shaped (.list bs) = true) : PyData.canLayAll0 bs = true := by
  have := SeqAt.canLay_of_shaped h
  unfold PyData.canLay0 at this
  exact this
section
variable {X : Cx}
def rInT (K : PySem.W.Frag) : R2 := fun x y H Q => ∃ d ds, Dp K H x d ∧ Dp K H y (.tuple ds) ∧ SeqAt.shaped d = true ∧ SeqAt.shaped (.list ds) = true ∧ Q (.bl (ds.any fun z => PyData.eqv z d)) H
def rNotInT (K : PySem.W.Frag) : R2 := fun x y H Q => ∃ d ds, Dp K H x d ∧ Dp K H y (.tuple ds) ∧ SeqAt.shaped d = true ∧ SeqAt.shaped (.list ds) = true ∧ Q (.bl (!ds.any fun z => PyData.eqv z d)) H
theorem room_in {A : Around} {d : PyData} {ds : List PyData} (hd : SeqAt.shaped d = true) (hu : A.units + 65 < cLine) : A.units + 1 + min (PyData.depthAll ds) d.depth < cLine := by
  have h1 := SeqAt.depth_of_shaped hd
  have h2 := Nat.min_le_right (PyData.depthAll ds) d.depth
  omega
theorem op_inT (hu : X.A.units + 65 < cLine) : OpR X (compareOp .In) (rInT X.K) := fun pins s σ H x y v u Q I rx ry h => by
  obtain ⟨d, ds, hd, he, sd, se, q⟩ := h
  obtain ⟨as, r1⟩ := Dp.reads I d x v hd rx
  obtain ⟨bs, r2⟩ := Dp.reads I (.tuple ds) y u he ry
  exact SeqAt.in_tuple_reads r2 r1 (canLayL se) (SeqAt.canLay_of_shaped sd) (room_in sd hu) ⟨.bl _, H, I, rfl, q⟩
theorem op_notInT (hu : X.A.units + 65 < cLine) : OpR X (compareOp .NotIn) (rNotInT X.K) := fun pins s σ H x y v u Q I rx ry h => by
  obtain ⟨d, ds, hd, he, sd, se, q⟩ := h
  obtain ⟨as, r1⟩ := Dp.reads I d x v hd rx
  obtain ⟨bs, r2⟩ := Dp.reads I (.tuple ds) y u he ry
  exact SeqAt.notIn_tuple_reads r2 r1 (canLayL se) (SeqAt.canLay_of_shaped sd) (room_in sd hu) ⟨.bl _, H, I, rfl, q⟩
end
section
variable {K : PySem.W.Frag} {mg : Str → Option Value}
theorem pys_lst {ys : List D} {bs : List PyData} (h : D.pys ys = some bs) : D.py (.lst ys) = some (.list bs) := by unfold D.py; rw [h]
theorem pys_tup {ys : List D} {bs : List PyData} (h : D.pys ys = some bs) : D.py (.tup ys) = some (.tuple bs) := by unfold D.py; rw [h]
theorem opd_in : OpD K mg .sh (fun x y H Q => rInD K x y H Q ∨ rInT K x y H Q) dIn := by
  intro E S H x y dx dy Q hs rx ry h
  cases dy with
  | lst ys =>
    obtain ⟨a, bs, ea, eb, sa, sb, h⟩ := inD_ok h
    exact .inl ⟨a, bs, dp_mono hs (dp_of dx x a rx ea), dp_mono hs (dp_of _ y _ ry (pys_lst eb)), sa, sb, Post.val h hs (.bl _)⟩
  | tup ys =>
    obtain ⟨a, bs, ea, eb, sa, sb, h⟩ := inD_ok h
    exact .inr ⟨a, bs, dp_mono hs (dp_of dx x a rx ea), dp_mono hs (dp_of _ y _ ry (pys_tup eb)), sa, sb, Post.val h hs (.bl _)⟩
  | _ => exact h.elim
theorem opd_notIn : OpD K mg .sh (fun x y H Q => rNotInD K x y H Q ∨ rNotInT K x y H Q) dNotIn := by
  intro E S H x y dx dy Q hs rx ry h
  cases dy with
  | lst ys =>
    obtain ⟨a, bs, ea, eb, sa, sb, h⟩ := inD_ok h
    exact .inl ⟨a, bs, dp_mono hs (dp_of dx x a rx ea), dp_mono hs (dp_of _ y _ ry (pys_lst eb)), sa, sb, Post.val h hs (.bl _)⟩
  | tup ys =>
    obtain ⟨a, bs, ea, eb, sa, sb, h⟩ := inD_ok h
    exact .inr ⟨a, bs, dp_mono hs (dp_of dx x a rx ea), dp_mono hs (dp_of _ y _ ry (pys_tup eb)), sa, sb, Post.val h hs (.bl _)⟩
  | _ => exact h.elim
def dIsN : D → Res D
  | .non => .ok (.bl true)
  | _ => .ok (.bl false)
def dIsB (c : Bool) : D → Res D
  | .bl b => .ok (.bl (b == c))
  | _ => .ok (.bl false)
theorem non_iff {S : Hp} {v : V} {d : D} (r : Rep K mg S v d) : dIsN d = .ok (.bl (decide (v = .non))) := by
  cases r <;> rfl
theorem bl_iff {S : Hp} {v : V} {d : D} {c : Bool} (r : Rep K mg S v d) : dIsB c d = .ok (.bl (decide (v = .bl c))) := by
  cases r with
  | bl b => cases b <;> cases c <;> rfl
  | _ => rfl
end
section
variable {X : Cx}
def rIsB1 (c : Bool) : R2 := fun x y H Q => y = .bl c ∧ Q (.bl (decide (x = .bl c))) H
theorem plainB {x : V} {v : Value} {c : Bool} (r : RelV x v) : plainIs v (.bool c) = true ∧ (decide (x = .bl c) = (v == .bool c)) := by
  cases x with
  | non => cases r; exact ⟨rfl, rfl⟩
  | bl b => cases r; cases b <;> cases c <;> exact ⟨rfl, rfl⟩
  | int i => obtain ⟨t, rfl⟩ := r; exact ⟨rfl, rfl⟩
  | str i => obtain ⟨t, rfl⟩ := r; exact ⟨rfl, rfl⟩
  | byt i => obtain ⟨t, rfl⟩ := r; exact ⟨rfl, rfl⟩
  | flt i => obtain ⟨t, rfl⟩ := r; exact ⟨rfl, rfl⟩
  | ref a => cases r; exact ⟨rfl, rfl⟩
  | ty n => cases r; exact ⟨rfl, rfl⟩
theorem op_isB1 (c : Bool) : OpR X (compareOp .Is) (rIsB1 c) := fun pins s σ H x y v u Q I rx ry h => by
  obtain ⟨rfl, q⟩ := h
  cases ry
  obtain ⟨h1, h2⟩ := plainB (c := c) rx
  exact wpAny_is_plain h1 ⟨.bl _, H, I, by rw [← h2]; rfl, q⟩
end
section
variable {X : Cx} {E : WX} {m : Mds} {md : Md} {a b e : Expr} {es : List Expr} {fa fb : Env → Res D} {fs : Env → Res (List D)} {pos p pc : Pos} {k j : Nat}
/-- room for what asks no call's depth -/
def RmU (A : Around) : Prop := A.units + 200 < cLine
theorem _root_.L2.Room.u {A : Around} {k : Nat} (hr : Room k A) : RmU A := by have := hr.un; unfold RmU; omega
theorem hu65 {A : Around} (hr : RmU A) : A.units + 65 < cLine := by unfold RmU at hr; omega
theorem hu64 {A : Around} (hr : RmU A) : A.units + 64 < cLine := by unfold RmU at hr; omega
theorem je_eq (hr : RmU X.A) (ha : JE X E m .sh a fa) (hb : JE X E m .sh b fb) : JE X E m .sh (.Compare a [.Eq] [b] pos) (f2 dEq fa fb) := je_cmp (op_eqD (hu64 hr)) opd_eq ha hb (nomark _)
theorem je_in (hr : RmU X.A) (ha : JE X E m .sh a fa) (hb : JE X E m .sh b fb) (hm : behindInMarks .In b = false := by rfl) : JE X E m .sh (.Compare a [.In] [b] pos) (f2 dIn fa fb) := je_cmp (OpR.or (op_inD (hu65 hr)) (op_inT (hu65 hr))) opd_in ha hb hm
theorem jt_eq (hr : RmU X.A) (ha : JE X E m .sh a fa) (hb : JE X E m .sh b fb) : JT X E m (.Compare a [.Eq] [b] pos) (fB (f2 dEq fa fb)) := jt_cmp (op_eqD (hu64 hr)) opd_eq ha hb (nomark _)
theorem jt_ne (hr : RmU X.A) (ha : JE X E m .sh a fa) (hb : JE X E m .sh b fb) : JT X E m (.Compare a [.NotEq] [b] pos) (fB (f2 dNe fa fb)) := jt_cmp (op_neD (hu64 hr)) opd_ne ha hb (nomark _)
theorem jt_notIn (hr : RmU X.A) (ha : JE X E m .sh a fa) (hb : JE X E m .sh b fb) (hm : behindInMarks .NotIn b = false := by rfl) : JT X E m (.Compare a [.NotIn] [b] pos) (fB (f2 dNotIn fa fb)) := jt_cmp (OpR.or (op_notInD (hu65 hr)) (op_notInT (hu65 hr))) opd_notIn ha hb hm
theorem un_tE {K : PySem.W.Frag} {mg : Str → Option Value} {r : R2} {g : D → Res D} {c : V} {d0 : D} (hr : ∀ (E : XK) (S H : Hp) (x : V) (d : D) (Q : VK), Same S H → Rep K mg S x d → Post K mg E S H .sh (g d) Q → r x c H Q) {σ : L2.St} {H : Hp} {Q : VK}
    (h : tE K mg E m .sh (f1 g fa) σ H Q) : tOp r (tE K mg E m .sh fa) (tC c) σ H Q := by
  obtain ⟨S, ρ, hm, hp⟩ := h
  exact ⟨S, ρ, hm, (Post.bind hp).post fun dx v S1 H1 s1 r1 h1 => hr _ S1 H1 v dx Q s1.sub r1 h1⟩
theorem isN_ok {K : PySem.W.Frag} {mg : Str → Option Value} (E : XK) (S H : Hp) (x : V) (d : D) (Q : VK) (hs : Same S H) (r : Rep K mg S x d) (h : Post K mg E S H .sh (dIsN d) Q) : Q (.bl (decide (x = .non))) H := by
  rw [non_iff r] at h
  exact h.val hs (.bl _)
theorem isB_ok {K : PySem.W.Frag} {mg : Str → Option Value} {c : Bool} (E : XK) (S H : Hp) (x : V) (d : D) (Q : VK) (hs : Same S H) (r : Rep K mg S x d) (h : Post K mg E S H .sh (dIsB c d) Q) : Q (.bl (decide (x = .bl c))) H := by
  rw [bl_iff r] at h
  exact h.val hs (.bl _)
theorem tT_of {K : PySem.W.Frag} {mg : Str → Option Value} {f : Env → Res D} {t : TE} (ht : ∀ σ H Q, tE K mg E m .sh f σ H Q → t σ H Q) {σ : L2.St} {H : Hp} {Q : Bool → Hp → Prop} (h : tT K mg E m (fB f) σ H Q) : tTest t σ H Q := by
  obtain ⟨S, ρ, hm, hp⟩ := h
  refine ht σ H _ ⟨S, ρ, hm, (PostW.bind hp).post fun d v S1 H1 s1 r k => ?_⟩
  cases d with
  | bl c => cases r; exact ⟨c, rfl, k S1 H1 (Step.refl s1.sub)⟩
  | _ => exact k.elim
theorem je_isN (ha : JE X E m .sh a fa) : JE X E m .sh (.Compare a [.Is] [.Constant .none j pc] pos) (f1 dIsN fa) := ⟨PEimp (pe_cmpR op_isN ha.pe pe_non (nomark _)) fun σ H Q h => un_tE (d0 := .non) (fun E S H x d Q hs r h => ⟨rfl, isN_ok E S H x d Q hs r h⟩) h⟩
theorem je_isB {c : Bool} (ha : JE X E m .sh a fa) : JE X E m .sh (.Compare a [.Is] [.Constant (.bool c) j pc] pos) (f1 (dIsB c) fa) := ⟨PEimp (pe_cmpR (op_isB1 c) ha.pe pe_bl (nomark _)) fun σ H Q h => un_tE (d0 := .non) (fun E S H x d Q hs r h => ⟨rfl, isB_ok E S H x d Q hs r h⟩) h⟩
theorem jt_isN (ha : JE X E m .sh a fa) : JT X E m (.Compare a [.Is] [.Constant .none j pc] pos) (fB (f1 dIsN fa)) := ⟨PTimp (pt_cmpR op_isN ha.pe pe_non (nomark _)) fun σ H Q h => tT_of (fun σ H Q h => un_tE (d0 := .non) (fun E S H x d Q hs r h => ⟨rfl, isN_ok E S H x d Q hs r h⟩) h) h⟩
theorem jt_isB {c : Bool} (ha : JE X E m .sh a fa) : JT X E m (.Compare a [.Is] [.Constant (.bool c) j pc] pos) (fB (f1 (dIsB c) fa)) := ⟨PTimp (pt_cmpR (op_isB1 c) ha.pe pe_bl (nomark _)) fun σ H Q h => tT_of (fun σ H Q h => un_tE (d0 := .non) (fun E S H x d Q hs r h => ⟨rfl, isB_ok E S H x d Q hs r h⟩) h) h⟩
end
def tyNm : D → Option String
  | .non => some "NoneType"
  | .bl _ => some "bool"
  | .int _ => some "int"
  | .str _ => some "str"
  | .lst _ => some "list"
  | .frl _ => some "list"
  | .tup _ => some "tuple"
  | .dic _ _ => some "dict"
  | .dit _ _ => some "dict"
  | .obj _ _ _ => none
  | .exc _ _ _ => none
def isTy (T : String) (d : D) : Res Bool := match tyNm d with
  | some a => (match kitB a T with
    | some b => .ok b
    | none => .er)
  | none => .er
def dIsi (T : String) (d : D) : Res D := (isTy T d).bind fun b => .ok (.bl b)
def dIsi2 (T U : String) (d : D) : Res D := (isTy T d).bind fun b => if b = true then .ok (.bl true) else (isTy U d).bind fun c => .ok (.bl c)
section
variable {K : PySem.W.Frag} {mg : Str → Option Value}
theorem tyx_of {S H : Hp} {v : V} {d : D} {a : String} (hs : Same S H) (r : Rep K mg S v d) (h : tyNm d = some a) : TyX K H v (.type a) := by
  cases r with
  | non => cases h; exact .base .non
  | bl b => cases h; exact .base (.bl b)
  | int b => cases h; exact .base (.int b)
  | str b => cases h; exact .base (.str b)
  | lst e => cases h; exact .base (.lst (hs _ _ e))
  | frl e =>
    cases h
    rcases e with (e | ⟨o, e⟩) | ⟨o, its, n, e, c, _⟩
    · exact .base (.lst (hs _ _ e))
    · exact .base (.frz (hs _ _ e))
    · exact .kList e c
  | tup e =>
    cases h
    exact .base (.tup (hs _ _ e))
  | dic e =>
    cases h
    rcases e with e | ⟨o, e⟩
    · exact .base (.dK (hs _ _ e))
    · exact .fDict (hs _ _ e)
  | dit e => cases h; exact .base (.dT (hs _ _ e))
  | exc => cases h
  | obj e => cases h
theorem isTy_ok {S H : Hp} {v : V} {d : D} {T : String} {b : Bool} (hs : Same S H) (r : Rep K mg S v d) (h : isTy T d = .ok b) : ∃ t, TyX K H v t ∧ PySem.W.kitOne K t (.type T) = some b := by
  unfold isTy at h
  split at h
  · rename_i a ea
    split at h
    · rename_i c ec
      injection h with h
      subst h
      exact ⟨.type a, tyx_of hs r ea, kit_ty ec⟩
    · cases h
  · cases h
end
section
variable {X : Cx} {E : WX} {m : Mds} {md : Md} {a b e : Expr} {es : List Expr} {fa fb : Env → Res D} {fs : Env → Res (List D)} {pos p p1 p2 p3 : Pos} {x1 : Nat}
theorem isTy_post {K : PySem.W.Frag} {mg : Str → Option Value} {E : XK} {S H : Hp} {T : String} {d : D} {r : Bool → Res D} {Q : VK} (h : Post K mg E S H .sh ((isTy T d).bind r) Q) : ∃ b, isTy T d = .ok b ∧ Post K mg E S H .sh (r b) Q := by
  cases e : isTy T d with
  | ok b => rw [e] at h; exact ⟨b, rfl, h⟩
  | ex c fs =>
    exfalso
    unfold isTy at e
    split at e
    · split at e <;> cases e
    · cases e
  | er => rw [e] at h; exact h.elim
theorem je_isi (T : String) {nT : Str} (hm : X.mg "isinstance" = none) (hT : X.mg nT = none) (ha : JE X E m .sh a fa) (hv : bootBuiltins nT = some (.type T) := by decide +kernel) (hg : Gl X "isinstance" := by rfl) (hgT : Gl X nT := by rfl) (hn : nT ≠ "__name__" := by decide) (hdb : (nT == ("__debug__" : Str)) = false := by decide)
    (he : starEach [a, .Name nT p2] X.env = (false, eval a X.env) :: starEach [.Name nT p2] X.env := by rfl) (he2 : starEach [.Name nT p2] X.env = (false, eval (.Name nT p2) X.env) :: starEach [] X.env := by rfl) (hpl : (backTo pos (starEach [.Name nT p2] X.env)).any (·.1) = false := by rfl) :
    JE X E m .sh (.Call (.Name "isinstance" p) [a, .Name nT p2] [] pos) (f1 (dIsi T) fa) := by
  refine ⟨PEimp (pe_callB call_isi hg hm (by decide +kernel) (pa_cons ha.pe (pa_cons (pe_bltn (v := .ty T) hgT hT hv rfl hn hdb) pa_nil he2) he) (by decide) (by decide) he hpl) fun σ H Q h => ?_⟩
  obtain ⟨S, ρ, hm, hp⟩ := h
  refine ⟨S, ρ, hm, (Post.bind hp).post fun d v S1 H1 s1 r k => ?_⟩
  obtain ⟨bb, eb, k⟩ := isTy_post k
  obtain ⟨t, ty, kt⟩ := isTy_ok s1.sub r eb
  exact ⟨v, .ty T, t, .type T, bb, rfl, .ty T, ty, kt, k.val s1.sub (.bl _)⟩
theorem je_isi2 (T U : String) {nT nU : Str} (hm : X.mg "isinstance" = none) (hT : X.mg nT = none) (hU : X.mg nU = none) (ha : JE X E m .sh a fa) (hv : bootBuiltins nT = some (.type T) := by decide +kernel) (hvU : bootBuiltins nU = some (.type U) := by decide +kernel) (hg : Gl X "isinstance" := by rfl)
    (hgT : Gl X nT := by rfl) (hgU : Gl X nU := by rfl) (hn : nT ≠ "__name__" := by decide) (hdb : (nT == ("__debug__" : Str)) = false := by decide) (hnU : nU ≠ "__name__" := by decide) (hdbU : (nU == ("__debug__" : Str)) = false := by decide)
    (he : starEach [a, .Tuple [.Name nT p2, .Name nU p3] x1 p1] X.env = (false, eval a X.env) :: starEach [.Tuple [.Name nT p2, .Name nU p3] x1 p1] X.env := by rfl)
    (he2 : starEach [.Tuple [.Name nT p2, .Name nU p3] x1 p1] X.env = (false, eval (.Tuple [.Name nT p2, .Name nU p3] x1 p1) X.env) :: starEach [] X.env := by rfl) (hpl : (backTo pos (starEach [.Tuple [.Name nT p2, .Name nU p3] x1 p1] X.env)).any (·.1) = false := by rfl)
    (ht1 : starEach [.Name nT p2, .Name nU p3] X.env = (false, eval (.Name nT p2) X.env) :: starEach [.Name nU p3] X.env := by rfl) (ht2 : starEach [.Name nU p3] X.env = (false, eval (.Name nU p3) X.env) :: starEach [] X.env := by rfl) :
    JE X E m .sh (.Call (.Name "isinstance" p) [a, .Tuple [.Name nT p2, .Name nU p3] x1 p1] [] pos) (f1 (dIsi2 T U) fa) := by
  refine ⟨PEimp (pe_callB call_isiT hg hm (by decide +kernel) (pa_cons ha.pe (pa_cons (pe_tup (pa_cons (pe_bltn (v := .ty T) hgT hT hv rfl hn hdb) (pa_cons (pe_bltn (v := .ty U) hgU hU hvU rfl hnU hdbU) pa_nil ht2) ht1)) pa_nil he2) he) (by decide) (by decide) he hpl) fun σ H Q h => ?_⟩
  obtain ⟨S, ρ, hm, hp⟩ := h
  refine ⟨S, ρ, hm, (Post.bind hp).post fun d v S1 H1 s1 r k => ⟨by show 2 ≤ sizeLine; decide, fun tp ntp => ?_⟩⟩
  obtain ⟨bb, eb, k⟩ := isTy_post k
  have s2 := Step.laid (o := .tup [V.ty T, V.ty U]) s1.sub ntp
  obtain ⟨t, ty, kt⟩ := isTy_ok (s1.sub.trans s2.hh) r eb
  cases bb with
  | true => exact ⟨v, tp, [.ty T, .ty U], t, [.type T, .type U], true, rfl, upd_same, .cons (.ty T) (.cons (.ty U) .nil), ty, kitAny_cons kt (fun z => nomatch z) (fun _ => rfl), (Post.step s2 k).val s2.sub (.bl _)⟩
  | false =>
    obtain ⟨cc, ec, k⟩ := isTy_post k
    have e' : tyNm d = tyNm d := rfl
    unfold isTy at eb ec
    split at eb
    · rename_i a' ea
      rw [ea] at ec
      have ec : (match kitB a' U with
        | some b => Res.ok b
        | none => .er) = .ok cc := ec
      split at eb
      · rename_i b1 k1
        split at ec
        · rename_i b2 k2
          cases eb; cases ec
          have ty' := tyx_of (s1.sub.trans s2.hh) r ea
          exact ⟨v, tp, [.ty T, .ty U], .type a', [.type T, .type U], _, rfl, upd_same, .cons (.ty T) (.cons (.ty U) .nil), ty', kitAny_cons (kit_ty k1) (fun _ => kitAny_cons (kit_ty k2) (fun h => by subst h; exact kitAny_nil) (fun h => h)) (fun z => nomatch z), (Post.step s2 k).val s2.sub (.bl _)⟩
        · cases ec
      · cases eb
    · cases eb
end
def isSc : D → Bool
  | .non => true
  | .bl _ => true
  | .int _ => true
  | .str _ => true
  | _ => false
def fSc (f : Env → Res D) : Env → Res D := fun ρ => match f ρ with
  | .ok d => if isSc d = true then .ok d else .er
  | _ => .er
def fNx {α : Type} (f : Env → Res α) : Env → Res α := fun ρ => match f ρ with
  | .ok d => .ok d
  | _ => .er
section
variable {K : PySem.W.Frag} {mg : Str → Option Value} {m m1 : Mds} {S H : Hp} {σ : L2.St} {ρ : Env}
/-- all slots as shared ones -/
theorem EnvM.peek (h : EnvM K mg m S H σ ρ) (w : Weak m m1) : ∃ S', Same S S' ∧ EnvM K mg m1 S' H σ ρ := by
  obtain ⟨hs, F, e⟩ := h
  have st : StF K mg m (fun _ => none) (fun _ => none) S F σ ρ H := ⟨⟨(fun a o z => nomatch z), (fun a o z => nomatch z), hs, (fun a _ => .inr rfl)⟩, e, fun i d _ a _ => rfl⟩
  obtain ⟨S', F', st', ss⟩ := st.weak w
  exact ⟨S', ss, st'.envM⟩
theorem Rep.sc {S S' : Hp} {v : V} {d : D} (h : Rep K mg S v d) (hd : isSc d = true) : Rep K mg S' v d := by
  cases h with
  | non => exact .non
  | bl b => exact .bl b
  | int b => exact .int b
  | str b => exact .str b
  | _ => cases hd
end
section
variable {X : Cx} {E : WX} {m m1 : Mds} {md : Md} {a b e : Expr} {es : List Expr} {f fa fb : Env → Res D} {g : Env → Res Bool} {pos p : Pos} {x : Str}
theorem je_borrow (h : JE X E m1 .sh e f) (w : Weak m m1 := by first | exact Weak.of (by decide) | exact weak_sh _ | (repeat (first | exact Weak.refl _ | exact weak_sh _ | apply Weak.cons | apply Weak.consSh))) : JE X E m .sh e (fSc f) := by
  refine ⟨PEimp h.pe fun σ H Q q => ?_⟩
  obtain ⟨S, ρ, hm, hp⟩ := q
  obtain ⟨S', ss, hm'⟩ := hm.peek w
  refine ⟨S', ρ, hm', ?_⟩
  unfold fSc at hp
  split at hp
  · rename_i d ed
    obtain ⟨hd, hp⟩ := Post.of_if hp
    rw [ed]
    intro v S1 H1 fp s1 o _ _
    exact hp v S H1 [] ⟨s1.hh, Same.refl _, hm.1.trans s1.hh, fun _ x => .inl x⟩ ⟨o.1.sc hd, rfl⟩ List.nodup_nil (fun a z => nomatch z)
  · exact hp.elim
theorem jt_borrow (h : JT X E m1 e g) (w : Weak m m1 := by first | exact Weak.of (by decide) | exact weak_sh _ | (repeat (first | exact Weak.refl _ | exact weak_sh _ | apply Weak.cons | apply Weak.consSh))) : JT X E m e (fNx g) := by
  refine ⟨PTimp h.pt fun σ H Q q => ?_⟩
  obtain ⟨S, ρ, hm, hp⟩ := q
  obtain ⟨S', ss, hm'⟩ := hm.peek w
  refine ⟨S', ρ, hm', ?_⟩
  unfold fNx at hp
  split at hp
  · rename_i d ed
    rw [ed]
    intro S1 H1 s1
    exact hp S H1 ⟨s1.hh, Same.refl _, hm.1.trans s1.hh, fun _ x => .inl x⟩
  · exact hp.elim
/-- an item of an own list: shared data -/
theorem je_itemO (i : Nat) (hb : JE X E m .sh b fb) (hmd : IsOw (mdAt m i) := by first | exact .inl rfl | exact .inr ⟨_, rfl⟩) (hN : X.N[i]? = some x := by rfl) (hv : Vis X.env.scope x := by first | exact Or.inl rfl | exact Or.inr (Or.inl rfl) | exact Or.inr (Or.inr rfl)) (hd : (x == ("__debug__" : Str)) = false := by decide)
    (hcd : (x == ("__classdict__" : Str)) = false := by decide) (hs : PlainIx b := by intro _ _; rfl) : JE X E m .sh (.Subscript (.Name x p) b pos) (f2 dIx (fV i) fb) := by
  refine ⟨PEimp (pe_ix ix_seq (pe_var hN hv hd hcd) hb.pe hs) fun σ H Q h => ?_⟩
  obtain ⟨S, ρ, hm, hp⟩ := h
  obtain ⟨hsub, F, e⟩ := id hm
  unfold f2 fV at hp
  split at hp
  · rename_i d ed
    obtain ⟨v, e1, o⟩ := e.at_ i d ed
    obtain ⟨q, vs, ds, rfl, rfl, e3, e4, e5, e6⟩ : ∃ q vs ds, v = .ref q ∧ d = .lst ds ∧ F i = [q] ∧ S q = none ∧ H q = some (.lst vs) ∧ RepL X.K X.mg S vs ds := by
      rcases hmd with hmd | ⟨q0, hmd⟩
      · rw [hmd] at o
        exact o
      · rw [hmd] at o
        exact o.2
    have hp : Post X.K X.mg (WE E σ) S H .sh ((fb ρ).bind fun y => dIx (.lst ds) y) Q := hp
    refine ⟨_, e1, S, ρ, hm, (Post.bind hp).post fun dy y S1 H1 s1 r k => ?_⟩
    cases dy with
    | int j =>
      cases r
      simp only [dIx] at k
      split at k
      · rename_i d' ed'
        obtain ⟨v', ev, rv⟩ := e6.atI ed'
        exact .inl ⟨q, vs, j, v', rfl, rfl, .inl (.inl (s1.hh _ _ e5)), ev, k.val s1.sub (rv.mono s1.ss)⟩
      · exact k.elim
    | _ => exact k.elim
  · exact hp.elim
end
end Da
namespace Da
open PySem PySem.Spec L2
def trD : D → Res Bool
  | .non => .ok false
  | .bl b => .ok b
  | .int i => .ok (i != 0)
  | .str z => if szOk z.length = true then .ok ((z.length : Int) != 0) else .er
  | .lst xs => .ok (!xs.isEmpty)
  | .frl xs => .ok (!xs.isEmpty)
  | .tup xs => .ok (!xs.isEmpty)
  | _ => .er
def fTr (f : Env → Res D) : Env → Res Bool := fun ρ => (f ρ).bind trD
section
variable {K : PySem.W.Frag} {mg : Str → Option Value}
theorem RepL.empty {S : Hp} {vs : List V} {ds : List D} (r : RepL K mg S vs ds) : (!ds.isEmpty) = !vs.isEmpty := by
  have := r.len
  cases vs with
  | nil =>
    cases ds with
    | nil => rfl
    | cons _ _ => simp at this
  | cons _ _ =>
    cases ds with
    | nil => simp at this
    | cons _ _ => rfl
theorem tru_of {S H : Hp} {v : V} {d : D} {b : Bool} (hs : Same S H) (r : Rep K mg S v d) (h : trD d = .ok b) : TruV K v H b := by
  cases d with
  | non => cases r; cases h; rfl
  | bl c => cases r; cases h; rfl
  | int c => cases r; cases h; rfl
  | str z =>
    cases r
    simp only [trD] at h
    split at h
    · rename_i hz
      cases h
      exact ⟨szOk_ok hz, rfl⟩
    · cases h
  | lst xs =>
    obtain ⟨a, vs, rfl, ha, rv⟩ := r.of_lst
    simp only [trD] at h
    cases h
    exact .inl ⟨vs, .inl (.inl (hs _ _ ha)), rv.empty⟩
  | frl xs =>
    obtain ⟨a, vs, rfl, ha, rv⟩ := r.of_frl
    simp only [trD] at h
    cases h
    exact .inl ⟨vs, same_l hs ha, rv.empty⟩
  | tup xs =>
    obtain ⟨a, vs, rfl, ha, rv⟩ := r.of_tup
    simp only [trD] at h
    cases h
    exact .inr (.inl ⟨vs, same_t hs ha, rv.empty⟩)
  | _ => cases h
end
section
variable {X : Cx} {E : WX} {m : Mds} {md : Md} {a b c e : Expr} {es : List Expr} {f fa fb fc : Env → Res D} {fs : Env → Res (List D)} {pos p p1 p2 : Pos} {x : Str}
theorem jt_tr (h : JE X E m .sh e f) (he : ∀ whole, isTrue e X.env whole = (do let v ← whole; standAt e.pos; holding [v] (truthy v)) := by intro _; rfl) : JT X E m e (fTr f) := by
  refine ⟨PTimp (pt_truth h.pe he) fun σ H Q q => ?_⟩
  obtain ⟨S, ρ, hm, hp⟩ := q
  refine ⟨S, ρ, hm, (PostW.bind hp).post fun d v S1 H1 s1 r k => ?_⟩
  cases ed : trD d with
  | ok bb =>
    rw [ed] at k
    exact ⟨bb, tru_of s1.sub r ed, k S1 H1 (Step.refl s1.sub)⟩
  | ex c fs =>
    exfalso
    cases d with
    | str z => simp only [trD] at ed; split at ed <;> cases ed
    | _ => simp only [trD] at ed; cases ed
  | er => rw [ed] at k; exact k.elim
def fChain (g g' : D → D → Res D) (fa fb fc : Env → Res D) : Env → Res D := fun ρ => (fa ρ).bind fun x => (fb ρ).bind fun y => (g x y).bind fun z => match z with
  | .bl true => (fc ρ).bind fun w => g' y w
  | .bl false => .ok (.bl false)
  | _ => .er
theorem chain_ok {K : PySem.W.Frag} {mg : Str → Option Value} {r r' : R2} {g g' : D → D → Res D} (hr : OpD K mg .sh r g) (hr' : OpD K mg .sh r' g') {σ : L2.St} {H : Hp} {Q : VK} (h : tE K mg E m .sh (fChain g g' fa fb fc) σ H Q) : tChain r r' (tE K mg E m .sh fa) (tE K mg E m .sh fb) (tE K mg E m .sh fc) σ H Q := by
  obtain ⟨S, ρ, hm, hp⟩ := h
  refine ⟨S, ρ, hm, (Post.bind hp).post fun dx v S1 H1 s1 r1 h1 => ⟨S1, ρ, hm.step s1, (Post.bind h1).post fun dy w S2 H2 s2 r2 h2 => ?_⟩⟩
  refine hr _ S2 H2 v w dx dy _ s2.sub (r1.mono s2.ss) r2 ((Post.bind h2).post fun dz z S3 H3 s3 r3 h3 => ?_)
  cases dz with
  | bl k =>
    cases r3
    refine ⟨k, rfl, ?_⟩
    cases k with
    | true => exact ⟨S3, ρ, (hm.step s1).step (s2.trans s3), (Post.bind h3).post fun dw u S4 H4 s4 r4 h4 => hr' _ S4 H4 w u dy dw Q s4.sub (r2.mono (s3.ss.trans s4.ss)) r4 h4⟩
    | false => exact Post.val h3 s3.sub (.bl false)
  | _ => exact h3.elim
theorem je_chain {op op' : CmpOp} {r r' : R2} {g g' : D → D → Res D} (ho : OpR X (compareOp op) r) (ho' : OpR X (compareOp op') r') (hr : OpD X.K X.mg .sh r g) (hr' : OpD X.K X.mg .sh r' g') (ha : JE X E m .sh a fa) (hb : JE X E m .sh b fb) (hc : JE X E m .sh c fc)
    (hm : lastMarks [op, op'] [b, c] = false := by with_unfolding_all rfl) : JE X E m .sh (.Compare a [op, op'] [b, c] pos) (fChain g g' fa fb fc) := ⟨PEimp (pe_chain ho ho' ha.pe hb.pe hc.pe hm) fun σ H Q h => chain_ok hr hr' h⟩
theorem jt_chain {op op' : CmpOp} {r r' : R2} {g g' : D → D → Res D} (ho : OpR X (compareOp op) r) (ho' : OpR X (compareOp op') r') (hr : OpD X.K X.mg .sh r g) (hr' : OpD X.K X.mg .sh r' g') (ha : JE X E m .sh a fa) (hb : JE X E m .sh b fb) (hc : JE X E m .sh c fc)
    (hm : lastMarks [op, op'] [b, c] = false := by with_unfolding_all rfl) : JT X E m (.Compare a [op, op'] [b, c] pos) (fB (fChain g g' fa fb fc)) := ⟨PTimp (pt_chain ho ho' ha.pe hb.pe hc.pe hm) fun σ H Q h => tT_of (fun σ H Q h => chain_ok hr hr' h) h⟩
def dList : D → Res D
  | .lst xs => .ok (.lst xs)
  | .frl xs => .ok (.lst xs)
  | .tup xs => .ok (.lst xs)
  | _ => .er
def dTuple : D → Res D
  | .lst xs => .ok (.tup xs)
  | .frl xs => .ok (.tup xs)
  | .tup xs => .ok (.tup xs)
  | _ => .er
theorem je_list (hm : X.mg "list" = none) (ha : JA X E m [e] fs) (hmd : md = .sh ∨ md = .ow := by first | exact .inl rfl | exact .inr rfl) (hg : Gl X "list" := by rfl) (he : starEach [e] X.env = (false, eval e X.env) :: starEach [] X.env := by rfl) : JE X E m md (.Call (.Name "list" p) [e] [] pos) (fOn (on1 dList) fs) :=
  je_callTy call_list_of (calld1 fun E S H x d Q hs rx hp => by
    cases d with
    | lst xs =>
      obtain ⟨a, vs, rfl, ha, rv⟩ := rx.of_lst
      exact ⟨a, vs, rfl, .inl (.inl (.inl (hs _ _ ha))), fun l hl => Post.list hmd hp hs rv hl⟩
    | frl xs =>
      obtain ⟨a, vs, rfl, ha, rv⟩ := rx.of_frl
      exact ⟨a, vs, rfl, .inl (same_l hs ha), fun l hl => Post.list hmd hp hs rv hl⟩
    | tup xs =>
      obtain ⟨a, vs, rfl, ha, rv⟩ := rx.of_tup
      exact ⟨a, vs, rfl, .inr (same_t hs ha), fun l hl => Post.list hmd hp hs rv hl⟩
    | _ => exact hp.elim) hm ha hg (by decide +kernel) (by decide) (by decide) he (by rfl)
theorem je_tuple (hm : X.mg "tuple" = none) (ha : JA X E m [e] fs) (hg : Gl X "tuple" := by rfl) (he : starEach [e] X.env = (false, eval e X.env) :: starEach [] X.env := by rfl) : JE X E m .sh (.Call (.Name "tuple" p) [e] [] pos) (fOn (on1 dTuple) fs) :=
  je_callTy call_tuple_of (calld1 fun E S H x d Q hs rx hp => by
    cases d with
    | lst xs =>
      obtain ⟨a, vs, rfl, ha, rv⟩ := rx.of_lst
      exact ⟨a, vs, rfl, .inl ⟨.inl (.inl (hs _ _ ha)), fun l hl => Post.tup hp hs rv hl⟩⟩
    | frl xs =>
      obtain ⟨a, vs, rfl, ha, rv⟩ := rx.of_frl
      exact ⟨a, vs, rfl, .inl ⟨same_l hs ha, fun l hl => Post.tup hp hs rv hl⟩⟩
    | tup xs =>
      have hp : Post X.K X.mg E S H .sh (.ok (.tup xs)) Q := hp
      have hv := hp.val hs rx
      obtain ⟨a, vs, rfl, ha, rv⟩ := rx.of_tup
      exact ⟨a, vs, rfl, .inr ⟨same_t hs ha, hv⟩⟩
    | _ => exact hp.elim) hm ha hg (by decide +kernel) (by decide) (by decide) he (by rfl)
def rgnOk (i j : Int) : Bool := stuck (rngOk i j = true ∧ (j - i).toNat ≤ 16777216)
def fTupleR1 (f : Env → Res D) : Env → Res D := fun ρ => (f ρ).bind fun d => match d with
  | .int j => if rgnOk 0 j = true then .ok (.tup (rng 0 (j - 0).toNat)) else .er
  | _ => .er
def intsD : List D → Option (List Int)
  | [] => some []
  | .int i :: r => match intsD r with
    | some ns => some (i :: ns)
    | none => none
  | _ => none
def boolsD : List D → Option (List Bool)
  | [] => some []
  | .bl i :: r => match boolsD r with
    | some ns => some (i :: ns)
    | none => none
  | _ => none
theorem boolsD_ok : ∀ {ds : List D} {ns : List Bool}, boolsD ds = some ns → ds = ns.map D.bl
  | [], ns, h => by cases h; rfl
  | .bl i :: r, ns, h => by
    simp only [boolsD] at h
    split at h
    · rename_i ms e
      cases h
      rw [boolsD_ok e]
      rfl
    · cases h
  | .non :: r, ns, h => by cases h
  | .int _ :: r, ns, h => by cases h
  | .str _ :: r, ns, h => by cases h
  | .lst _ :: r, ns, h => by cases h
  | .tup _ :: r, ns, h => by cases h
  | .frl _ :: r, ns, h => by cases h
  | .dic _ _ :: r, ns, h => by cases h
  | .dit _ _ :: r, ns, h => by cases h
  | .obj _ _ _ :: r, ns, h => by cases h
@[simp] theorem intsD_map : ∀ ns : List Int, intsD (ns.map D.int) = some ns
  | [] => rfl
  | n :: ns => by simp only [List.map_cons, intsD, intsD_map ns]
@[simp] theorem boolsD_map : ∀ ns : List Bool, boolsD (ns.map D.bl) = some ns
  | [] => rfl
  | n :: ns => by simp only [List.map_cons, boolsD, boolsD_map ns]
def dAll : D → Res D
  | .lst xs => match boolsD xs with
    | some ns => .ok (.bl (ns.all id))
    | none => .er
  | _ => .er
theorem je_all (hm : X.mg "all" = none) (ha : JA X E m [e] fs) (hc : X.calm = true := by rfl) (hg : Gl X "all" := by rfl) (he : starEach [e] X.env = (false, eval e X.env) :: starEach [] X.env := by rfl) : JE X E m .sh (.Call (.Name "all" p) [e] [] pos) (fOn (on1 dAll) fs) :=
  je_callB (cr_all hc) (calld1 fun E S H x d Q hs rx hp => by
    cases d with
    | lst xs =>
      obtain ⟨a, vs, rfl, ha, rv⟩ := rx.of_lst
      simp only [dAll] at hp
      split at hp
      · rename_i ns en
        rw [boolsD_ok en] at rv
        exact ⟨a, ns, rfl, by rw [← rv.bls]; exact .inl (.inl (hs _ _ ha)), hp.val hs (.bl _)⟩
      · exact hp.elim
    | _ => exact (show False from hp).elim) hm ha hg (by decide +kernel) (by decide) (by decide) he (by rfl)
def repOk (n : Nat) (k : Int) : Bool := stuck ((-(9223372036854775808) ≤ k ∧ k < 9223372036854775808) ∧ szOk (n * k.toNat) = true)
def dRep : D → D → Res D
  | .lst xs, .int k => if repOk xs.length k = true then .ok (.lst (List.replicate k.toNat xs).flatten) else .er
  | _, _ => .er
theorem RepL.rep {K : PySem.W.Frag} {mg : Str → Option Value} {S : Hp} {vs : List V} {ds : List D} (r : RepL K mg S vs ds) : ∀ k : Nat, RepL K mg S (List.replicate k vs).flatten (List.replicate k ds).flatten
  | 0 => .nil
  | k + 1 => by
    rw [List.replicate_succ, List.replicate_succ, List.flatten_cons, List.flatten_cons]
    exact r.append (r.rep k)
theorem je_rep (ha : JE X E m .sh a fa) (hb : JE X E m .sh b fb) (hmd : md = .sh ∨ md = .ow := by first | exact .inl rfl | exact .inr rfl) : JE X E m md (.BinOp a .Mult b pos) (f2 dRep fa fb) := je_op op_rep (fun E S H x y dx dy Q hs rx ry h => by
  cases dx with
  | lst xs =>
    cases dy with
    | int k =>
      obtain ⟨hz, h⟩ := Post.of_if h
      have hz := stuck_iff.mp hz
      have h12 := hz.1
      obtain ⟨l, vs, rfl, hl, rv⟩ := rx.of_lst
      cases ry
      have h1 := h12.1
      have h2 := h12.2
      exact ⟨l, k, vs, rfl, rfl, hs _ _ hl, by omega, by omega, by rw [rv.len]; exact szOk_ok hz.2, fun p hp => Post.list hmd h hs (rv.rep _) hp⟩
    | _ => exact h.elim
  | _ => exact h.elim) ha hb
def cutD (xs : List D) (lo hi : Option Int) : List D := (xs.drop (HT.sIx xs.length 0 lo)).take (HT.sIx xs.length xs.length hi - HT.sIx xs.length 0 lo)
def fNoI : Env → Res (Option Int) := fun _ => .ok none
def fSoI (f : Env → Res D) : Env → Res (Option Int) := fun ρ => (f ρ).bind fun d => match d with
  | .int i => .ok (some i)
  | _ => .er
def dCutL (d : D) (lo hi : Option Int) : Res D := match d with
  | .lst xs => .ok (.lst (cutD xs lo hi))
  | .frl xs => .ok (.lst (cutD xs lo hi))
  | _ => .er
def fCut (g : D → Option Int → Option Int → Res D) (f : Env → Res D) (fl fh : Env → Res (Option Int)) : Env → Res D := fun ρ => (f ρ).bind fun x => (fl ρ).bind fun l => (fh ρ).bind fun h => g x l h
def tO (K : PySem.W.Frag) (mg : Str → Option Value) (E : WX) (m : Mds) (f : Env → Res (Option Int)) : TO := fun σ H Q => ∃ S ρ, EnvM K mg m S H σ ρ ∧ PostW K mg (WE E σ) S H (f ρ) fun o _ H' => Q o H'
structure JO (X : Cx) (E : WX) (m : Mds) (e : Option Expr) (f : Env → Res (Option Int)) : Prop where
  po : PO X e (tO X.K X.mg E m f)
theorem POimp {t t' : TO} {o : Option Expr} (h : PO X o t) (g : ∀ σ H Q, t' σ H Q → t σ H Q) : PO X o t' := ⟨fun pins s σ H Q I q => h.run pins s σ H Q I (g σ H Q q)⟩
theorem jo_none : JO X E m none fNoI := ⟨POimp po_none fun σ H Q h => by
  obtain ⟨S, ρ, hm, hp⟩ := h
  exact hp S H (Step.refl hm.1)⟩
theorem jo_some (h : JE X E m .sh e f) : JO X E m (some e) (fSoI f) := ⟨POimp (po_some h.pe) fun σ H Q h => by
  obtain ⟨S, ρ, hm, hp⟩ := h
  refine ⟨S, ρ, hm, (PostW.bind hp).post fun d v S1 H1 s1 r k => ?_⟩
  cases d with
  | int i => cases r; exact ⟨i, rfl, k S1 H1 (Step.refl s1.sub)⟩
  | _ => exact k.elim⟩
theorem repl_cut {K : PySem.W.Frag} {mg : Str → Option Value} {S : Hp} {vs : List V} {ds : List D} (r : RepL K mg S vs ds) (lo hi : Option Int) : RepL K mg S (cutV vs lo hi) (cutD ds lo hi) := by
  unfold cutV cutD
  rw [r.len]
  exact (r.drop _).take _
def rSlAll (K : PySem.W.Frag) : V → Option Int → Option Int → Hp → VK → Prop := fun x lo hi H Q => rSlL K x lo hi H Q ∨ rSlA K x lo hi H Q
theorem sl_all : SlR X (rSlAll X.K) := SlR.or sl_list sl_tupA
end
end Da
namespace Da
open PySem PySem.Spec L2
section
variable {P : Program} {w : World} {K : PySem.W.Frag} {mg : Str → Option Value} {base h : Heap}
theorem defAt_mk {x qual : Str} {st : Stmt} {ps : List Str} {f : Addr} {oc : Value} {od an : Option Addr} {osl : Array (Option Value)} {kV doc pm cdv ct : Value} (X : K.In h) (G : h.Ns mainGlobals mg) (a : PySem.W.nsIn K mainGlobals x = some (some (.ref f)))
    (l : K.lookup f = some ⟨oc, od, .func (PySem.W.fnOf x qual (defArgs st) (defBody st) (defScope st) .none kV doc pm an cdv ct), osl⟩) (c : PySem.W.codeIn K cdv qual = true) (k : PySem.W.keepIn K (.ref f) = true)
    (hb : ∀ (kV doc pm : Value) (an : Option Addr) (cdv ct : Value) (us : List Value), us.length = ps.length → bindArgs (PySem.W.fnOf x qual (defArgs st) (defBody st) (defScope st) .none kV doc pm an cdv ct) ⟨us, []⟩ = pure (ps.zip us)) : DefAt K mg x qual st ps := by
  have Fn := fun_mk (st := st) l c k
  exact ⟨f, _, Fn, Fn.binds hb, PySem.W.mg_of X G a⟩
/-- what the law is asked -/
def spLaw (K : PySem.W.Frag) : Sp := fun vs H Q _ => ∃ (a : Addr) (ns : List Int), vs = [.ref a] ∧ SqL K H a (ns.map V.int) ∧ ns.length ≤ 63 ∧ (∀ z ∈ ns, Builtin.Int.intBits z ≤ 1048576) ∧ ∀ H', Q (.bl true) H'
theorem law_imp {k : Nat} {f : Addr} {fd : FuncData} {g : List D → Res D} (G : FnOk P w K mg base (L2.CX P w) k f fd ["script"] (spD K mg 1 .sh g)) (hg : ∀ ns : List Int, ns.length ≤ 63 → (∀ z ∈ ns, Builtin.Int.intBits z ≤ 1048576) → g [.frl (ns.map D.int)] = .ok (.bl true)) :
    FnOk P w K mg base (L2.CX P w) k f fd ["script"] (spLaw K) := G.imp fun vs H Q E hsp => by
  obtain ⟨a, ns, rfl, hS, hl, hb, q⟩ := hsp
  refine ⟨H, [.frl (ns.map D.int)], Same.refl H, .cons (.frl hS (by rw [List.length_map, List.length_map]) (RepL.of_ints ns).at_) .nil, ?_⟩
  show Post K mg E H H .sh (chk 1 g [.frl (ns.map D.int)]) Q
  unfold chk
  rw [if_pos (by rfl), hg ns hl hb]
  intro v S' H' fp s' o _ _
  cases o.1
  exact q H'
theorem cx_none {H : Hp} {s s' : Shared} {e : Value} (h : L2.CX P w [] H s (fun _ _ _ => False) e s') : False := by
  obtain ⟨_, _, _, _, _, _, _, _, _, _, _, _, z⟩ := h
  exact z
theorem walk_end {l : PySem.W.OpenLaw} {q : Program} {loose : List Str} {XP : (Str → Option Value) → Heap → Prop} {YP : World → Heap → Prop} {d : DefRec} {K : Params → PySem.W.Frag} {k : Nat} (hn : l.most = some 63) (hdf : d.params.defaults = []) (hr : Room k callerA)
    (hY : ∀ (w : World) (h : Heap), YP w h → (K w.params).In h)
    (F : ∀ (w : World) (mg : Str → Option Value) (fa : Addr) (h : Heap), (K w.params).In h → h.Ns mainGlobals mg → mg d.name = some (.ref fa) →
      ∃ fd : FuncData, (∀ (s : Shared) (u : Value), BindsTo s fd ⟨[u], []⟩ [("script", u)]) ∧ ∀ base : Heap, (K w.params).In base → base.Ns mainGlobals mg → FnOk l.prog w (K w.params) mg base (L2.CX l.prog w) k fa fd ["script"] (spLaw (K w.params))) :
    PySem.W.WalkO q loose XP YP l.row.toRowW d [] (fun f vs => PySem.call f vs) :=
  L2.walk_ofB (n := 63) (k := k) (x := "script") (CX := fun w => L2.CX l.prog w) (sp := fun w => spLaw (K w.params)) hn (by decide) hdf hr hY F (fun w H a ns hl hb _ hS => ⟨a, ns, rfl, hS, hl, hb, fun _ => rfl⟩) fun w H s e s' z => cx_none z
end
end Da
namespace Da
open PySem PySem.Spec L2
section
variable {ρ : Env} {f fa fb fc : Env → Res D} {g : D → Res D} {g2 : D → D → Res D} {fs : Env → Res (List D)} {c ga gb : Env → Res Bool} {F G : FS} {d e : D} {i : Nat}
@[simp] theorem fC_ap : fC d ρ = .ok d := rfl
@[simp] theorem fV_nil : fV i [] = .er := by simp [fV]
@[simp] theorem fV_zero {x : D} {r : Env} : fV 0 (some x :: r) = .ok x := rfl
@[simp] theorem fV_succ {x : Option D} {r : Env} : fV (i + 1) (x :: r) = fV i r := by
  unfold fV
  rw [List.getElem?_cons_succ]
@[simp] theorem f1_ap : f1 g fa ρ = (fa ρ).bind g := rfl
@[simp] theorem f2_ap : f2 g2 fa fb ρ = (fa ρ).bind fun x => (fb ρ).bind fun y => g2 x y := rfl
@[simp] theorem fA0_ap : fA0 ρ = .ok [] := rfl
@[simp] theorem fA_ap : fA fa fs ρ = (fa ρ).bind fun x => (fs ρ).bind fun xs => .ok (x :: xs) := rfl
@[simp] theorem fOn_ap {g : List D → Res D} : fOn g fs ρ = (fs ρ).bind g := rfl
@[simp] theorem fB_ap : fB f ρ = (f ρ).bind asB := rfl
@[simp] theorem fTr_ap : fTr f ρ = (f ρ).bind trD := rfl
@[simp] theorem fBv_ap : fBv c ρ = (c ρ).bind fun b => .ok (.bl b) := rfl
@[simp] theorem asB_bl {b : Bool} : asB (.bl b) = .ok b := rfl
@[simp] theorem fAnd_ap : fAnd ga gb ρ = (ga ρ).bind fun c => if c = true then gb ρ else .ok false := rfl
@[simp] theorem fOr_ap : fOr ga gb ρ = (ga ρ).bind fun c => if c = true then .ok true else gb ρ := rfl
@[simp] theorem fNot_ap : fNot ga ρ = (ga ρ).bind fun c => .ok (!c) := rfl
@[simp] theorem fIf_ap : fIf c fa fb ρ = (c ρ).bind fun b => if b = true then fa ρ else fb ρ := rfl
@[simp] theorem fL_ap : fL f ρ = (f ρ).bind asL := rfl
@[simp] theorem fR1_ap : fR1 fs ρ = (fs ρ).bind gRng1 := rfl
@[simp] theorem fR2_ap : fR2 fs ρ = (fs ρ).bind gRng2 := rfl
@[simp] theorem asL_lst {xs : List D} : asL (.lst xs) = .ok xs := rfl
@[simp] theorem asL_frl {xs : List D} : asL (.frl xs) = .ok xs := rfl
@[simp] theorem asL_tup {xs : List D} : asL (.tup xs) = .ok xs := rfl
@[simp] theorem on1_ap {g : D → Res D} : on1 g [d] = g d := rfl
@[simp] theorem on2_ap {g : D → D → Res D} : on2 g [d, e] = g d e := rfl
@[simp] theorem gN_ap : gN i d ρ = .ok (ρ.set i (some d)) := rfl
@[simp] theorem fNext_ap : fNext ρ = .ok (.nx ρ) := rfl
@[simp] theorem fBrk_ap : fBrk ρ = .ok (.bk ρ) := rfl
@[simp] theorem fCnt_ap : fCnt ρ = .ok (.ct ρ) := rfl
@[simp] theorem fSet_ap : fSet i f ρ = lift (f ρ) ρ fun d => .ok (.nx (ρ.set i (some d))) := rfl
@[simp] theorem fRet_ap : fRet f ρ = lift (f ρ) ρ fun d => .ok (.rt d) := rfl
@[simp] theorem fRetN_ap : fRetN ρ = .ok (.rt .non) := rfl
@[simp] theorem fIfS_ap : fIfS c F G ρ = lift (c ρ) ρ fun b => if b = true then F ρ else G ρ := rfl
@[simp] theorem fDrop_ap : fDrop f ρ = lift (f ρ) ρ fun _ => .ok (.nx ρ) := rfl
@[simp] theorem fAug_ap : fAug i g2 f ρ = lift ((fV i ρ).bind fun x => (f ρ).bind fun y => g2 x y) ρ fun d => .ok (.nx (ρ.set i (some d))) := rfl
theorem fSeq_nx {ρ' : Env} (h : F ρ = .ok (.nx ρ')) : fSeq F G ρ = G ρ' := by unfold fSeq; rw [h]
/-- a block behind an end -/
def andThen (o : Res Fl) (G : FS) : Res Fl := match o with
  | .ok (.nx ρ') => G ρ'
  | o => o
@[simp] theorem fSeq_ap : fSeq F G ρ = andThen (F ρ) G := rfl
@[simp] theorem andThen_nx {ρ' : Env} : andThen (.ok (.nx ρ')) G = G ρ' := rfl
@[simp] theorem andThen_rt {d : D} : andThen (.ok (.rt d)) G = .ok (.rt d) := rfl
@[simp] theorem andThen_bk {ρ' : Env} : andThen (.ok (.bk ρ')) G = .ok (.bk ρ') := rfl
@[simp] theorem andThen_ct {ρ' : Env} : andThen (.ok (.ct ρ')) G = .ok (.ct ρ') := rfl
@[simp] theorem andThen_xc {c : Str} {fs : List (Str × D)} {ρ' : Env} : andThen (.ok (.xc c fs ρ')) G = .ok (.xc c fs ρ') := rfl
@[simp] theorem andThen_er : andThen .er G = .er := rfl
@[simp] theorem andThen_ite {p : Prop} [Decidable p] {a b : Res Fl} : andThen (if p then a else b) G = if p then andThen a G else andThen b G := by split <;> rfl
@[simp] theorem fApp_zero {xs : List D} {r : Env} : fApp 0 f (some (.lst xs) :: r) = lift (f (some (.lst xs) :: r)) (some (.lst xs) :: r) fun d => if szOk (xs.length + 1) = true then .ok (.nx (some (.lst (xs ++ [d])) :: r)) else .er := rfl
@[simp] theorem dAdd_int {i j : Int} : dAdd (.int i) (.int j) = .ok (.int (i + j)) := rfl
@[simp] theorem dSub_int {i j : Int} : dSub (.int i) (.int j) = .ok (.int (i - j)) := rfl
theorem dMul_int {i j : Int} (h : mulOk i j = true) : dMul (.int i) (.int j) = .ok (.int (i * j)) := if_pos h
@[simp] theorem dLt_int {i j : Int} : dLt (.int i) (.int j) = .ok (.bl (decide (i < j))) := rfl
@[simp] theorem dLe_int {i j : Int} : dLe (.int i) (.int j) = .ok (.bl (decide (i ≤ j))) := rfl
@[simp] theorem dGt_int {i j : Int} : dGt (.int i) (.int j) = .ok (.bl (decide (j < i))) := rfl
@[simp] theorem dGe_int {i j : Int} : dGe (.int i) (.int j) = .ok (.bl (decide (j ≤ i))) := rfl
@[simp] theorem dI_yes {g : Int → Int → Int} {i j : Int} : dI yes2 g (.int i) (.int j) = .ok (.int (g i j)) := rfl
@[simp] theorem dInt_int {i : Int} : dInt (.int i) = .ok (.int i) := rfl
@[simp] theorem dNeg_int {i : Int} : dNeg (.int i) = .ok (.int (-i)) := rfl
@[simp] theorem dAbs_int {i : Int} : dAbs (.int i) = .ok (.int (if i < 0 then -i else i)) := rfl
@[simp] theorem dMax2_int {i j : Int} : dMax2 (.int i) (.int j) = .ok (.int (if j > i then j else i)) := rfl
@[simp] theorem dMin2_int {i j : Int} : dMin2 (.int i) (.int j) = .ok (.int (if j < i then j else i)) := rfl
@[simp] theorem dLen_lst {xs : List D} : dLen (.lst xs) = .ok (.int xs.length) := rfl
@[simp] theorem dLen_frl {xs : List D} : dLen (.frl xs) = .ok (.int xs.length) := rfl
@[simp] theorem dLen_tup {xs : List D} : dLen (.tup xs) = .ok (.int xs.length) := rfl
@[simp] theorem eqD_int {i j : Int} : eqD (.int i) (.int j) = .ok (i == j) := by
  unfold eqD D.py
  simp only [SeqAt.shaped, PyData.canLay0, PyData.depth, PyData.eqv]
  rfl
@[simp] theorem dEq_int {i j : Int} : dEq (.int i) (.int j) = .ok (.bl (i == j)) := by unfold dEq; rw [eqD_int]; rfl
@[simp] theorem dNe_int {i j : Int} : dNe (.int i) (.int j) = .ok (.bl (!(i == j))) := by unfold dNe; rw [eqD_int]; rfl
theorem log2_lt {n k : Nat} (h : n < 2 ^ k) (hk : 0 < k) : n.log2 < k := PySem.Flt.log2_lt_of hk h
theorem mulOk_of {i j : Int} {a b : Nat} (hi : i.natAbs < 2 ^ a) (hj : j.natAbs < 2 ^ b) (ha : 0 < a := by decide) (hb : 0 < b := by decide) (hab : a + b ≤ 1000000 := by decide) : mulOk i j = true := mulOk_yes (wide_mul hi hj ha hb hab)
theorem mul64 {i j : Int} (hi : i.natAbs < 18446744073709551616) (hj : j.natAbs < 18446744073709551616) : mulOk i j = true := mulOk_of (a := 64) (b := 64) hi hj
/-- the greatest divisor's bound, never reckoned out -/
def Lim : Nat := 2 ^ 9000
theorem lt_lim {n : Nat} (h : n < 18446744073709551616) : n < Lim := Nat.lt_of_lt_of_le (show n < 2 ^ 64 from h) (Nat.pow_le_pow_right (by decide) (by decide))
theorem dDiv_pos {i j : Int} (h : 0 < j) (h9 : j.natAbs < Lim) : dDiv (.int i) (.int j) = .ok (.int (i / j)) := by
  show (if divOk i j = true then Res.ok (D.int (i.fdiv j)) else .er) = _
  rw [if_pos (by
    exact stuck_iff.mpr ⟨by omega, log2_lt h9 (by decide)⟩), Int.fdiv_eq_ediv_of_nonneg i (by omega)]
theorem dDiv_64 {i j : Int} (h : 0 < j) (h9 : j < 18446744073709551616) : dDiv (.int i) (.int j) = .ok (.int (i / j)) := dDiv_pos h (lt_lim (by omega))
theorem dMod_pos {i j : Int} (h : 0 < j) : dMod (.int i) (.int j) = .ok (.int (i % j)) := by
  show (if modOk i j = true then Res.ok (D.int (i.fmod j)) else .er) = _
  rw [if_pos (show modOk i j = true from decide_eq_true (by omega)), Int.fmod_eq_emod_of_nonneg i (by omega)]
theorem kb_NoneType_int : kitB "NoneType" "int" = some false := by decide +kernel
theorem kb_bool_int : kitB "bool" "int" = some true := by decide +kernel
theorem kb_int_int : kitB "int" "int" = some true := by decide +kernel
theorem kb_str_int : kitB "str" "int" = some false := by decide +kernel
theorem kb_list_int : kitB "list" "int" = some false := by decide +kernel
theorem kb_tuple_int : kitB "tuple" "int" = some false := by decide +kernel
theorem kb_dict_int : kitB "dict" "int" = some false := by decide +kernel
@[simp] theorem isTy_int_non : isTy "int" .non = .ok false := by unfold isTy tyNm; simp only [kb_NoneType_int]
@[simp] theorem isTy_int_bl {b : Bool} : isTy "int" (.bl b) = .ok true := by unfold isTy tyNm; simp only [kb_bool_int]
@[simp] theorem isTy_int_int {b : Int} : isTy "int" (.int b) = .ok true := by unfold isTy tyNm; simp only [kb_int_int]
@[simp] theorem isTy_int_str {b : Str} : isTy "int" (.str b) = .ok false := by unfold isTy tyNm; simp only [kb_str_int]
@[simp] theorem isTy_int_lst {b : List D} : isTy "int" (.lst b) = .ok false := by unfold isTy tyNm; simp only [kb_list_int]
@[simp] theorem isTy_int_frl {b : List D} : isTy "int" (.frl b) = .ok false := by unfold isTy tyNm; simp only [kb_list_int]
@[simp] theorem isTy_int_tup {b : List D} : isTy "int" (.tup b) = .ok false := by unfold isTy tyNm; simp only [kb_tuple_int]
@[simp] theorem isTy_int_dic {k : List Key} {b : List D} : isTy "int" (.dic k b) = .ok false := by unfold isTy tyNm; simp only [kb_dict_int]
@[simp] theorem isTy_int_dit {k : List (List Key)} {b : List D} : isTy "int" (.dit k b) = .ok false := by unfold isTy tyNm; simp only [kb_dict_int]
theorem kb_NoneType_bool : kitB "NoneType" "bool" = some false := by decide +kernel
theorem kb_bool_bool : kitB "bool" "bool" = some true := by decide +kernel
theorem kb_int_bool : kitB "int" "bool" = some false := by decide +kernel
theorem kb_str_bool : kitB "str" "bool" = some false := by decide +kernel
theorem kb_list_bool : kitB "list" "bool" = some false := by decide +kernel
theorem kb_tuple_bool : kitB "tuple" "bool" = some false := by decide +kernel
theorem kb_dict_bool : kitB "dict" "bool" = some false := by decide +kernel
@[simp] theorem isTy_bool_non : isTy "bool" .non = .ok false := by unfold isTy tyNm; simp only [kb_NoneType_bool]
@[simp] theorem isTy_bool_bl {b : Bool} : isTy "bool" (.bl b) = .ok true := by unfold isTy tyNm; simp only [kb_bool_bool]
@[simp] theorem isTy_bool_int {b : Int} : isTy "bool" (.int b) = .ok false := by unfold isTy tyNm; simp only [kb_int_bool]
@[simp] theorem isTy_bool_str {b : Str} : isTy "bool" (.str b) = .ok false := by unfold isTy tyNm; simp only [kb_str_bool]
@[simp] theorem isTy_bool_lst {b : List D} : isTy "bool" (.lst b) = .ok false := by unfold isTy tyNm; simp only [kb_list_bool]
@[simp] theorem isTy_bool_frl {b : List D} : isTy "bool" (.frl b) = .ok false := by unfold isTy tyNm; simp only [kb_list_bool]
@[simp] theorem isTy_bool_tup {b : List D} : isTy "bool" (.tup b) = .ok false := by unfold isTy tyNm; simp only [kb_tuple_bool]
@[simp] theorem isTy_bool_dic {k : List Key} {b : List D} : isTy "bool" (.dic k b) = .ok false := by unfold isTy tyNm; simp only [kb_dict_bool]
@[simp] theorem isTy_bool_dit {k : List (List Key)} {b : List D} : isTy "bool" (.dit k b) = .ok false := by unfold isTy tyNm; simp only [kb_dict_bool]
theorem kb_NoneType_list : kitB "NoneType" "list" = some false := by decide +kernel
theorem kb_bool_list : kitB "bool" "list" = some false := by decide +kernel
theorem kb_int_list : kitB "int" "list" = some false := by decide +kernel
theorem kb_str_list : kitB "str" "list" = some false := by decide +kernel
theorem kb_list_list : kitB "list" "list" = some true := by decide +kernel
theorem kb_tuple_list : kitB "tuple" "list" = some false := by decide +kernel
theorem kb_dict_list : kitB "dict" "list" = some false := by decide +kernel
@[simp] theorem isTy_list_non : isTy "list" .non = .ok false := by unfold isTy tyNm; simp only [kb_NoneType_list]
@[simp] theorem isTy_list_bl {b : Bool} : isTy "list" (.bl b) = .ok false := by unfold isTy tyNm; simp only [kb_bool_list]
@[simp] theorem isTy_list_int {b : Int} : isTy "list" (.int b) = .ok false := by unfold isTy tyNm; simp only [kb_int_list]
@[simp] theorem isTy_list_str {b : Str} : isTy "list" (.str b) = .ok false := by unfold isTy tyNm; simp only [kb_str_list]
@[simp] theorem isTy_list_lst {b : List D} : isTy "list" (.lst b) = .ok true := by unfold isTy tyNm; simp only [kb_list_list]
@[simp] theorem isTy_list_frl {b : List D} : isTy "list" (.frl b) = .ok true := by unfold isTy tyNm; simp only [kb_list_list]
@[simp] theorem isTy_list_tup {b : List D} : isTy "list" (.tup b) = .ok false := by unfold isTy tyNm; simp only [kb_tuple_list]
@[simp] theorem isTy_list_dic {k : List Key} {b : List D} : isTy "list" (.dic k b) = .ok false := by unfold isTy tyNm; simp only [kb_dict_list]
@[simp] theorem isTy_list_dit {k : List (List Key)} {b : List D} : isTy "list" (.dit k b) = .ok false := by unfold isTy tyNm; simp only [kb_dict_list]
theorem kb_NoneType_tuple : kitB "NoneType" "tuple" = some false := by decide +kernel
theorem kb_bool_tuple : kitB "bool" "tuple" = some false := by decide +kernel
theorem kb_int_tuple : kitB "int" "tuple" = some false := by decide +kernel
theorem kb_str_tuple : kitB "str" "tuple" = some false := by decide +kernel
theorem kb_list_tuple : kitB "list" "tuple" = some false := by decide +kernel
theorem kb_tuple_tuple : kitB "tuple" "tuple" = some true := by decide +kernel
theorem kb_dict_tuple : kitB "dict" "tuple" = some false := by decide +kernel
@[simp] theorem isTy_tuple_non : isTy "tuple" .non = .ok false := by unfold isTy tyNm; simp only [kb_NoneType_tuple]
@[simp] theorem isTy_tuple_bl {b : Bool} : isTy "tuple" (.bl b) = .ok false := by unfold isTy tyNm; simp only [kb_bool_tuple]
@[simp] theorem isTy_tuple_int {b : Int} : isTy "tuple" (.int b) = .ok false := by unfold isTy tyNm; simp only [kb_int_tuple]
@[simp] theorem isTy_tuple_str {b : Str} : isTy "tuple" (.str b) = .ok false := by unfold isTy tyNm; simp only [kb_str_tuple]
@[simp] theorem isTy_tuple_lst {b : List D} : isTy "tuple" (.lst b) = .ok false := by unfold isTy tyNm; simp only [kb_list_tuple]
@[simp] theorem isTy_tuple_frl {b : List D} : isTy "tuple" (.frl b) = .ok false := by unfold isTy tyNm; simp only [kb_list_tuple]
@[simp] theorem isTy_tuple_tup {b : List D} : isTy "tuple" (.tup b) = .ok true := by unfold isTy tyNm; simp only [kb_tuple_tuple]
@[simp] theorem isTy_tuple_dic {k : List Key} {b : List D} : isTy "tuple" (.dic k b) = .ok false := by unfold isTy tyNm; simp only [kb_dict_tuple]
@[simp] theorem isTy_tuple_dit {k : List (List Key)} {b : List D} : isTy "tuple" (.dit k b) = .ok false := by unfold isTy tyNm; simp only [kb_dict_tuple]
theorem kb_NoneType_str : kitB "NoneType" "str" = some false := by decide +kernel
theorem kb_bool_str : kitB "bool" "str" = some false := by decide +kernel
theorem kb_int_str : kitB "int" "str" = some false := by decide +kernel
theorem kb_str_str : kitB "str" "str" = some true := by decide +kernel
theorem kb_list_str : kitB "list" "str" = some false := by decide +kernel
theorem kb_tuple_str : kitB "tuple" "str" = some false := by decide +kernel
theorem kb_dict_str : kitB "dict" "str" = some false := by decide +kernel
@[simp] theorem isTy_str_non : isTy "str" .non = .ok false := by unfold isTy tyNm; simp only [kb_NoneType_str]
@[simp] theorem isTy_str_bl {b : Bool} : isTy "str" (.bl b) = .ok false := by unfold isTy tyNm; simp only [kb_bool_str]
@[simp] theorem isTy_str_int {b : Int} : isTy "str" (.int b) = .ok false := by unfold isTy tyNm; simp only [kb_int_str]
@[simp] theorem isTy_str_str {b : Str} : isTy "str" (.str b) = .ok true := by unfold isTy tyNm; simp only [kb_str_str]
@[simp] theorem isTy_str_lst {b : List D} : isTy "str" (.lst b) = .ok false := by unfold isTy tyNm; simp only [kb_list_str]
@[simp] theorem isTy_str_frl {b : List D} : isTy "str" (.frl b) = .ok false := by unfold isTy tyNm; simp only [kb_list_str]
@[simp] theorem isTy_str_tup {b : List D} : isTy "str" (.tup b) = .ok false := by unfold isTy tyNm; simp only [kb_tuple_str]
@[simp] theorem isTy_str_dic {k : List Key} {b : List D} : isTy "str" (.dic k b) = .ok false := by unfold isTy tyNm; simp only [kb_dict_str]
@[simp] theorem isTy_str_dit {k : List (List Key)} {b : List D} : isTy "str" (.dit k b) = .ok false := by unfold isTy tyNm; simp only [kb_dict_str]
theorem kb_NoneType_dict : kitB "NoneType" "dict" = some false := by decide +kernel
theorem kb_bool_dict : kitB "bool" "dict" = some false := by decide +kernel
theorem kb_int_dict : kitB "int" "dict" = some false := by decide +kernel
theorem kb_str_dict : kitB "str" "dict" = some false := by decide +kernel
theorem kb_list_dict : kitB "list" "dict" = some false := by decide +kernel
theorem kb_tuple_dict : kitB "tuple" "dict" = some false := by decide +kernel
theorem kb_dict_dict : kitB "dict" "dict" = some true := by decide +kernel
@[simp] theorem isTy_dict_non : isTy "dict" .non = .ok false := by unfold isTy tyNm; simp only [kb_NoneType_dict]
@[simp] theorem isTy_dict_bl {b : Bool} : isTy "dict" (.bl b) = .ok false := by unfold isTy tyNm; simp only [kb_bool_dict]
@[simp] theorem isTy_dict_int {b : Int} : isTy "dict" (.int b) = .ok false := by unfold isTy tyNm; simp only [kb_int_dict]
@[simp] theorem isTy_dict_str {b : Str} : isTy "dict" (.str b) = .ok false := by unfold isTy tyNm; simp only [kb_str_dict]
@[simp] theorem isTy_dict_lst {b : List D} : isTy "dict" (.lst b) = .ok false := by unfold isTy tyNm; simp only [kb_list_dict]
@[simp] theorem isTy_dict_frl {b : List D} : isTy "dict" (.frl b) = .ok false := by unfold isTy tyNm; simp only [kb_list_dict]
@[simp] theorem isTy_dict_tup {b : List D} : isTy "dict" (.tup b) = .ok false := by unfold isTy tyNm; simp only [kb_tuple_dict]
@[simp] theorem isTy_dict_dic {k : List Key} {b : List D} : isTy "dict" (.dic k b) = .ok true := by unfold isTy tyNm; simp only [kb_dict_dict]
@[simp] theorem isTy_dict_dit {k : List (List Key)} {b : List D} : isTy "dict" (.dit k b) = .ok true := by unfold isTy tyNm; simp only [kb_dict_dict]
@[simp] theorem trD_bl {b : Bool} : trD (.bl b) = .ok b := rfl
@[simp] theorem trD_non : trD .non = .ok false := rfl
@[simp] theorem trD_int {i : Int} : trD (.int i) = .ok (i != 0) := rfl
@[simp] theorem trD_lst {xs : List D} : trD (.lst xs) = .ok (!xs.isEmpty) := rfl
@[simp] theorem trD_frl {xs : List D} : trD (.frl xs) = .ok (!xs.isEmpty) := rfl
@[simp] theorem trD_tup {xs : List D} : trD (.tup xs) = .ok (!xs.isEmpty) := rfl
@[simp] theorem dIsi_ap {T : String} : dIsi T d = (isTy T d).bind fun b => .ok (.bl b) := rfl
@[simp] theorem dIsi2_ap {T U : String} : dIsi2 T U d = (isTy T d).bind fun b => if b = true then .ok (.bl true) else (isTy U d).bind fun c => .ok (.bl c) := rfl
end
end Da
namespace Da
open PySem PySem.Spec L2
/-- a turn's end: N goes on, Q is wanted of what leaves the loop -/
def Turn (N : Env → Prop) (Q : Res Fl → Prop) : Res Fl → Prop
  | .ok (.nx ρ) => N ρ
  | .ok (.ct ρ) => N ρ
  | .ok (.bk ρ) => Q (.ok (.nx ρ))
  | .ok (.rt d) => Q (.ok (.rt d))
  | .ok (.xc c fs ρ) => Q (.ok (.xc c fs ρ))
  | .ex _ _ => False
  | .er => False
@[simp] theorem Turn_nx {N : Env → Prop} {Q : Res Fl → Prop} {ρ : Env} : Turn N Q (.ok (.nx ρ)) = N ρ := rfl
@[simp] theorem Turn_ct {N : Env → Prop} {Q : Res Fl → Prop} {ρ : Env} : Turn N Q (.ok (.ct ρ)) = N ρ := rfl
@[simp] theorem Turn_bk {N : Env → Prop} {Q : Res Fl → Prop} {ρ : Env} : Turn N Q (.ok (.bk ρ)) = Q (.ok (.nx ρ)) := rfl
@[simp] theorem Turn_rt {N : Env → Prop} {Q : Res Fl → Prop} {d : D} : Turn N Q (.ok (.rt d)) = Q (.ok (.rt d)) := rfl
@[simp] theorem rng_length {lo : Int} {n : Nat} : (rng lo n).length = n := by unfold rng; rw [List.length_map, List.length_range]
theorem fFor_ap {it : Env → Res (List D)} {g : D → Env → Res Env} {F : FS} {ρ : Env} {xs : List D} (h : it ρ = .ok xs) : fFor it g F ρ = forGo g F xs ρ := by unfold fFor; rw [h]; rfl
@[simp] theorem startE_one {n : Nat} {a : D} : startE (n + 1) [a] = some a :: List.replicate n none := by simp [startE]
@[simp] theorem startE_two {n : Nat} {a b : D} : startE (n + 2) [a, b] = some a :: some b :: List.replicate n none := by simp [startE]
@[simp] theorem chk_one {f : List D → Res D} {a : D} : chk 1 f [a] = f [a] := rfl
@[simp] theorem chk_two {f : List D → Res D} {a b : D} : chk 2 f [a, b] = f [a, b] := rfl
@[simp] theorem chk_three {f : List D → Res D} {a b c : D} : chk 3 f [a, b, c] = f [a, b, c] := rfl
@[simp] theorem chk_four {f : List D → Res D} {a b c d : D} : chk 4 f [a, b, c, d] = f [a, b, c, d] := rfl
@[simp] theorem gLstD_nil : gLstD [] = .ok (.lst []) := rfl
@[simp] theorem gLstD_cons {d : D} {ds : List D} (h : ds.length < 100000 := by decide) : gLstD (d :: ds) = .ok (.lst (d :: ds)) := by
  unfold gLstD
  rw [if_pos (by rw [List.length_cons]; omega)]
theorem dIx_lst {xs : List D} {i : Int} {d : D} (h : atI xs i = some d) : dIx (.lst xs) (.int i) = .ok d := by simp only [dIx, h]
theorem dIx_tup {xs : List D} {i : Int} {d : D} (h : atI xs i = some d) : dIx (.tup xs) (.int i) = .ok d := by simp only [dIx, h]
theorem dIx_frl {xs : List D} {i : Int} {d : D} (h : atI xs i = some d) : dIx (.frl xs) (.int i) = .ok d := by simp only [dIx, h]
end Da
namespace Da
open PySem PySem.Spec L2
def F_law_whole : FS := (fRet (fBv (fAnd (fB (f1 (dIsi "int") (fV 0))) (fB (fBv (fNot (fB (f1 (dIsi "bool") (fV 0)))))))))
def m_law_whole : List D → Res D := runF 1 .sh F_law_whole
def F_law_cell : FS := (fSeq (fIfS (fB (f2 dLt (fV 1) (fOn (on1 dLen) (fA (fV 0) fA0)))) (fRet (f2 dIx (fV 0) (fV 1))) fNext)
    (fSeq (fSet 2 (fC (.int 17)))
    (fSeq (fFor (fL (fV 0)) (gN 3) (fSet 2 (f2 dMod (fOn (on1 dInt) (fA (f2 dAdd (f2 dMul (fV 2) (fC (.int 31))) (f2 dMod (fOn (on1 dInt) (fA (fV 3) fA0)) (fC (.int 1000003)))) fA0)) (fC (.int 1000003)))))
    (fRet (f2 dMod (fOn (on1 dInt) (fA (f2 dMul (f2 dMul (f2 dAdd (fV 2) (fC (.int 7))) (f2 dAdd (fV 1) (fC (.int 3)))) (fC (.int 69621))) fA0)) (fC (.int 2147483647)))))))
def m_law_cell : List D → Res D := runF 4 .sh F_law_cell
def F_law_digits : FS := (fSeq (fSet 2 (fOn gLstD fA0))
    (fSeq (fSet 3 (fOn (on1 dInt) (fA (fV 0) fA0)))
    (fSeq (fIfS (fB (f2 dGe (fV 3) (f2 dPow (fC (.int 10)) (fC (.int 18))))) (fSeq (fSet 3 (f2 dSub (fV 3) (f2 dPow (fC (.int 10)) (fC (.int 18)))))
    (fSeq (fFor (fL (fV 1)) (gN 6) (fSeq (fApp 2 (f2 dMod (fOn (on1 dInt) (fA (fV 3) fA0)) (fV 6)))
    (fSet 3 (f2 dDiv (fOn (on1 dInt) (fA (fV 3) fA0)) (fV 6)))))
    (fRet (fV 2)))) fNext)
    (fSeq (fSet 4 (f2 dMod (fOn (on1 dInt) (fA (fV 3) fA0)) (fC (.int 2147483629))))
    (fSeq (fFor (fR1 (fA (fOn (on1 dLen) (fA (fV 1) fA0)) fA0)) (gN 5) (fSeq (fSet 4 (f2 dMod (fOn (on1 dInt) (fA (f2 dAdd (f2 dAdd (f2 dMul (fV 4) (fC (.int 48271))) (f2 dMul (fC (.int 974711)) (fV 5))) (fC (.int 12345))) fA0)) (fC (.int 2147483647))))
    (fSeq (fSet 7 (f2 dMod (fOn (on1 dInt) (fA (f2 dMul (fV 4) (f2 dAdd (f2 dDiv (fV 4) (fC (.int 65537))) (fC (.int 3)))) fA0)) (fC (.int 2147483629))))
    (fApp 2 (f2 dMod (f2 dDiv (fV 7) (fC (.int 19))) (f2 dIx (fV 1) (fV 5)))))))
    (fRet (fV 2)))))))
def m_law_digits : List D → Res D := runF 8 .ow F_law_digits
/-- a row of digits below the sizes -/
def Digs (sizes row : List Int) : Prop := row.length = sizes.length ∧ ∀ (i : Nat) (s r : Int), sizes[i]? = some s → row[i]? = some r → 0 ≤ r ∧ r < s
theorem Digs.snoc {sizes row : List Int} {n : Nat} {s r : Int} (h : Digs (sizes.take n) row) (hs : sizes[n]? = some s) (h0 : 0 ≤ r) (h1 : r < s) : Digs (sizes.take (n + 1)) (row ++ [r]) := by
  obtain ⟨hl, hd⟩ := h
  have hn := (List.getElem?_eq_some_iff.mp hs).1
  rw [List.length_take, Nat.min_eq_left (by omega)] at hl
  refine ⟨by rw [List.length_append, List.length_take, hl, Nat.min_eq_left (by omega)]; rfl, fun i s' r' e1 e2 => ?_⟩
  rw [List.getElem?_take] at e1
  split at e1
  · rename_i hi
    by_cases hin : i < n
    · exact hd i s' r' (by rw [List.getElem?_take, if_pos hin]; exact e1) (by rw [List.getElem?_append_left (by omega)] at e2; exact e2)
    · have : i = n := by omega
      subst this
      rw [hs] at e1
      cases e1
      rw [← hl, List.getElem?_concat_length] at e2
      cases e2
      exact ⟨h0, h1⟩
  · cases e1
end Da
namespace Da
open PySem PySem.Spec L2
/-- the data of the slots vs forgotten -/
def wipeD (ρ : Env) : List Nat → Env
  | [] => ρ
  | v :: vs => (wipeD ρ vs).set v none
/-- the items of a comprehension -/
def lcGo (g : D → Env → Res Env) (c : Env → Res Bool) (f : Env → Res D) (ρ : Env) : List D → Res (List D)
  | [] => .ok []
  | x :: xs => match g x ρ with
    | .ok ρ1 => (match c ρ1 with
      | .ok b => if b = true then (match f ρ1 with
        | .ok y => (match lcGo g c f ρ xs with
          | .ok ys => .ok (y :: ys)
          | _ => .er)
        | _ => .er) else lcGo g c f ρ xs
      | _ => .er)
    | _ => .er
def asLst (r : Res (List D)) : Res D := match r with
  | .ok ys => .ok (.lst ys)
  | _ => .er
def fLc (vs : List Nat) (it : Env → Res (List D)) (g : D → Env → Res Env) (c : Env → Res Bool) (f : Env → Res D) : Env → Res D := fun ρ => (it ρ).bind fun xs => if szOk xs.length = true then asLst (lcGo g c f (wipeD ρ vs) xs) else .er
def fYes : Env → Res Bool := fun _ => .ok true
def EF : WX := fun _ _ _ _ => False
theorem takesF {X : Cx} : Takes X EF := fun _ _ x => by
  obtain ⟨_, _, _, _, _, _, _, _, _, _, _, _, z⟩ := x
  exact z.2.2.2.2.elim
structure JTs (X : Cx) (E : WX) (m : Mds) (es : List Expr) (f : Env → Res Bool) : Prop where
  pt : PTs X es (tT X.K X.mg E m f)
section
variable {K : PySem.W.Frag} {mg : Str → Option Value} {m : Mds} {F : Nat → List Addr} {S S' H H' : Hp} {σ : L2.St} {ρ : Env}
theorem EnvF.wipe (h : EnvF K mg m F S H σ ρ) : ∀ vs : List Nat, EnvF K mg m F S H (L2.wipe σ vs) (wipeD ρ vs)
  | [] => h
  | v :: vs => by
    have ih := EnvF.wipe h vs
    have key : ∀ {j : Nat} {d : D}, ((wipeD ρ vs).set v none)[j]? = some (some d) → j ≠ v ∧ (wipeD ρ vs)[j]? = some (some d) := fun {j d} ej => by
      by_cases hj : v = j
      · subst hj
        rw [List.getElem?_set, if_pos rfl] at ej
        split at ej <;> cases ej
      · rw [List.getElem?_set_ne hj] at ej
        exact ⟨fun z => hj z.symm, ej⟩
    unfold L2.wipe wipeD
    refine ⟨by rw [List.length_set, List.length_set]; exact ih.len, fun i d e => ?_, fun i d e => ih.nd i d (key e).2, fun i j d e hij e1 e2 => ih.apart i j d e hij (key e1).2 (key e2).2⟩
    obtain ⟨w, e1, o⟩ := ih.at_ i d (key e).2
    exact ⟨w, by rw [List.getElem?_set_ne (Ne.symm (key e).1)]; exact e1, o⟩
theorem EnvM.wipe (h : EnvM K mg m S H σ ρ) (vs : List Nat) : EnvM K mg m S H (L2.wipe σ vs) (wipeD ρ vs) := by
  obtain ⟨hs, F, h⟩ := h
  exact ⟨hs, F, h.wipe vs⟩
/-- slots as of a body that nothing was before -/
theorem EnvM.bare (h : EnvM K mg m S H σ ρ) : ∃ F, StF K mg m (fun _ => none) (fun _ => none) S F σ ρ H := by
  obtain ⟨hs, F, h⟩ := h
  exact ⟨F, ⟨(fun _ _ e => nomatch e), (fun _ _ e => nomatch e), hs, (fun _ _ => .inr rfl)⟩, h, (fun _ _ _ _ _ => rfl)⟩
theorem wipe_at {vs : List Nat} {j : Nat} : (L2.wipe σ vs)[j]? = if j ∈ vs ∧ j < σ.length then some none else σ[j]? := by
  induction vs with
  | nil => simp [L2.wipe]
  | cons v vs ih =>
    unfold L2.wipe
    rw [List.getElem?_set, L2.wipe_length, ih]
    by_cases hv : v = j
    · subst hv
      by_cases hl : v < σ.length
      · simp [hl]
      · simp [hl]
    · have : ¬ j = v := fun z => hv z.symm
      simp [hv, this]
theorem wipe_eq {σ' : L2.St} {vs ts : List Nat} (hl : σ'.length = σ.length) (hj : ∀ j, j ∉ ts → σ'[j]? = (L2.wipe σ vs)[j]?) (hts : ∀ t ∈ ts, t ∈ vs) : L2.wipe σ' vs = L2.wipe σ vs := by
  refine List.ext_getElem? fun j => ?_
  rw [wipe_at, wipe_at, hl]
  by_cases hv : j ∈ vs
  · by_cases hlt : j < σ.length
    · rw [if_pos ⟨hv, hlt⟩, if_pos ⟨hv, hlt⟩]
    · rw [if_neg (fun z => hlt z.2), if_neg (fun z => hlt z.2), List.getElem?_eq_none (by omega), List.getElem?_eq_none (by omega)]
  · rw [if_neg (fun z => hv z.1), if_neg (fun z => hv z.1)]
    have := hj j (fun z => hv (hts j z))
    rw [wipe_at, if_neg (fun z => hv z.1)] at this
    exact this
/-- a hidden new object is written -/
theorem Step.write {p : Addr} {o : HO} (st : Step S H S' H') (hs : S' p = none) (hp : H p = none) : Step S H S' (upd H' p o) := by
  refine ⟨fun b x e => ?_, st.ss, fun b x e => ?_, st.new⟩
  · rw [upd_ne (ne_of_none e hp)]
    exact st.hh b x e
  · rw [upd_ne (ne_of_none e hs)]
    exact st.sub b x e
end
section
variable {K : PySem.W.Frag} {mg : Str → Option Value} {E : WX} {m : Mds} {it : Env → Res (List D)} {g : D → Env → Res Env} {c : Env → Res Bool} {f : Env → Res D} {ts vs : List Nat}
/-- the list under way: its items so far, what is still to come -/
def LcW (K : PySem.W.Frag) (mg : Str → Option Value) (g : D → Env → Res Env) (c : Env → Res Bool) (f : Env → Res D) (ρ : Env) (xs ys : List D) (D0 : Addr) (S1 H1 : Hp) (i : Nat) (H : Hp) : Prop :=
  ∃ S2 ws ds rest, Step S1 H1 S2 H ∧ S2 D0 = none ∧ H D0 = some (.lst ws) ∧ RepL K mg S2 ws ds ∧ lcGo g c f ρ (xs.drop i) = .ok rest ∧ ys = ds ++ rest ∧ ds.length ≤ i
theorem lc_ok {σ : L2.St} {H : Hp} {Q : VK} (hts : ∀ t ∈ ts, t ∈ vs) (h : tE K mg E m .ow (fLc vs it g c f) σ H Q) :
    tLc (tI K mg E m it) (tGD K mg m ts g) (tT K mg EF m c) (tE K mg EF m .sh f) vs σ H Q := by
  obtain ⟨S, ρ, hm, hp⟩ := h
  refine ⟨S, ρ, hm, (Post.bind hp).imp fun xs S1 H1 s1 k J w D0 hD => ?_⟩
  split at k
  · rename_i hz
    have hz := szOk_ok hz
    unfold asLst at k
    split at k
    · rename_i ys eg
      refine ⟨fun i n H => n = xs.length - i ∧ i ≤ xs.length ∧ LcW K mg g c f (wipeD ρ vs) xs ys D0 S1 H1 i H, ⟨xs.length, by simp, Nat.zero_le _, S1, [], [], ys, Step.hid s1.sub hD, s1.sub.free hD, upd_same, .nil, eg, rfl, Nat.le_refl _⟩, ?_⟩
      rintro i n H2 ⟨rfl, hi, S2, ws, ds, rest, st2, hs2, hd2, rv, el, ey, hn⟩
      by_cases hlt : i < xs.length
      · obtain ⟨hgo, hyl⟩ := w.go i xs[i] S2 H2 (List.getElem?_eq_getElem hlt) st2.ss st2.sub
        refine .inr ⟨hgo, LcW K mg g c f (wipeD ρ vs) xs ys D0 S1 H1 (i + 1), fun H' z => ⟨xs.length - (i + 1), by omega, rfl, hlt, z⟩, fun x H3 y => ?_⟩
        obtain ⟨S3, s3, r3⟩ := hyl x H3 y
        rw [List.drop_eq_getElem_cons hlt] at el
        unfold lcGo at el
        split at el
        · rename_i ρ1 eg1
          have st3 := st2.trans s3
          obtain ⟨F, stF⟩ := (((hm.step s1).step st3).wipe vs).bare
          refine ⟨_, _, S3, F, wipeD ρ vs, xs[i], stF, r3, ?_⟩
          rw [eg1]
          intro σ4 S4 F4 H4 st4 s4 hfr
          refine ⟨wipe_eq (by rw [hfr.1, L2.wipe_length]) hfr.2 hts, S4, ρ1, st4.envM, ?_⟩
          split at el
          · rename_i b ec
            rw [ec]
            intro S5 H5 s5
            have a5 := (s3.trans s4).trans s5
            have st5 := st2.trans a5
            have hd5 := a5.hh _ _ hd2
            have hs5 := a5.out hs2 hd2
            cases b with
            | false =>
              rw [if_neg (by decide)] at el
              show LcW K mg g c f (wipeD ρ vs) xs ys D0 S1 H1 (i + 1) H5
              exact ⟨S5, ws, ds, rest, st5, hs5, hd5, rv.mono a5.ss, el, ey, by omega⟩
            | true =>
              rw [if_pos rfl] at el
              show tE K mg EF m Md.sh f σ4 H5 _
              split at el
              · rename_i y' ef
                refine ⟨S5, ρ1, (st4.envM).step s5, ?_⟩
                rw [ef]
                intro v S6 H6 fp s6 o _ _
                have a6 := a5.trans s6
                split at el
                · rename_i rest' er
                  cases el
                  refine ⟨ws, a6.hh _ _ hd2, by rw [rv.len]; omega, S6, ws ++ [v], ds ++ [y'], rest', (st2.trans a6).write (a6.out hs2 hd2) hD, a6.out hs2 hd2, upd_same, (rv.mono a6.ss).snoc o.1, er, by rw [ey]; simp, by rw [List.length_append]; simp; omega⟩
                · cases el
              · cases el
          · cases el
        · cases el
      · have e : i = xs.length := by omega
        subst e
        rw [List.drop_length] at el
        cases el
        rw [List.append_nil] at ey
        subst ey
        exact .inl ⟨w.stop S2 H2 st2.ss st2.sub, k _ S2 H2 [D0] st2 ⟨D0, ws, _, rfl, rfl, rfl, hs2, hd2, rv⟩ (by simp) (fun a z => by
          have : a = D0 := by simpa using z
          rw [this]; exact hD)⟩
    · exact k.elim
  · exact k.elim
end
section
variable {X : Cx} {E : WX} {L : Lp} {m : Mds} {ts : List Nat} {N0 ps0 : List Str} {sc0 : Scope} {elt tg iter e : Expr} {ifs : List Expr} {scope : Scope} {own : List (Str × Nat)} {pos : Pos} {it : Env → Res (List D)} {g : D → Env → Res Env} {c : Env → Res Bool} {f : Env → Res D}
theorem jts_nil : JTs X E m [] fYes := ⟨⟨fun pins s σ H Q I q => pts_nil.run pins s σ H Q I (by
  obtain ⟨S, ρ, hm, hp⟩ := q
  exact hp S H (Step.refl hm.1))⟩⟩
theorem jts_one (h : JT X E m e c) : JTs X E m [e] c := ⟨pts_one h.pt⟩
theorem je_lc (Sc : FnScope N0 ps0 sc0) (own : List (Str × Nat)) (hi : JI X E m tg iter it)
    (hg : ∀ (s : Shared) (H : Hp) (C : Addr) (cl : List (Str × Addr)) (fp : List Addr), JG (X.blk s H scope (compEnvC scope cl C X.env) fp) m ts tg g) (ht : ∀ (s : Shared) (H : Hp) (C : Addr) (cl : List (Str × Addr)) (fp : List Addr), JTs (X.blk s H scope (compEnvC scope cl C X.env) fp) EF m ifs c)
    (he : ∀ (s : Shared) (H : Hp) (C : Addr) (cl : List (Str × Addr)) (fp : List Addr), JE (X.blk s H scope (compEnvC scope cl C X.env) fp) EF m .sh elt f) (hc : X.calm = true := by rfl) (hN0 : X.N = N0 := by rfl) (hsc : X.env.scope = sc0 := by rfl) (ok : blkC N0 sc0 scope own = true := by decide +kernel) (hts : ∀ t ∈ ts, t ∈ own.map (·.2) := by decide)
    (hs : ∀ x, foldedSetIterable iter X.env x = pure x := by intro _; rfl) : JE X E m .ow (.ListComp elt [⟨tg, iter, ifs, 0⟩] scope pos) (fLc (own.map (·.2)) it g c f) :=
  ⟨PEimp (pe_lc (g := tGD X.K X.mg m ts g) (tt := tT X.K X.mg EF m c) (te := tE X.K X.mg EF m .sh f) hc (by rw [hN0]; exact Sc.nd) hi.pi (blkOk_by (by rw [hN0, hsc]; exact ok)) (fun s H C cl fp => (hg s H C cl fp).pg) (fun s H C cl fp => (ht s H C cl fp).pt) (fun s H C cl fp => (he s H C cl fp).pe) hs) fun σ H Q h => lc_ok hts h⟩
/-- .. within another comprehension's block -/
theorem je_lcB {scO : Scope} (Sc : FnScope N0 ps0 sc0) (own : List (Str × Nat)) (hi : JI X E m tg iter it)
    (hg : ∀ (s : Shared) (H : Hp) (C : Addr) (cl : List (Str × Addr)) (fp : List Addr), JG (X.blk s H scope (compEnvC scope cl C X.env) fp) m ts tg g) (ht : ∀ (s : Shared) (H : Hp) (C : Addr) (cl : List (Str × Addr)) (fp : List Addr), JTs (X.blk s H scope (compEnvC scope cl C X.env) fp) EF m ifs c)
    (he : ∀ (s : Shared) (H : Hp) (C : Addr) (cl : List (Str × Addr)) (fp : List Addr), JE (X.blk s H scope (compEnvC scope cl C X.env) fp) EF m .sh elt f) (hc : X.calm = true := by rfl) (hN0 : X.N = N0 := by rfl) (hsc : X.env.scope = relS scO sc0 := by rfl) (ok : blkC N0 (relS scO sc0) scope own = true := by decide +kernel) (hts : ∀ t ∈ ts, t ∈ own.map (·.2) := by decide)
    (hs : ∀ x, foldedSetIterable iter X.env x = pure x := by intro _; rfl) : JE X E m .ow (.ListComp elt [⟨tg, iter, ifs, 0⟩] scope pos) (fLc (own.map (·.2)) it g c f) :=
  ⟨PEimp (pe_lc (g := tGD X.K X.mg m ts g) (tt := tT X.K X.mg EF m c) (te := tE X.K X.mg EF m .sh f) hc (by rw [hN0]; exact Sc.nd) hi.pi (blkOk_by (by rw [hN0, hsc]; exact ok)) (fun s H C cl fp => (hg s H C cl fp).pg) (fun s H C cl fp => (ht s H C cl fp).pt) (fun s H C cl fp => (he s H C cl fp).pe) hs) fun σ H Q h => lc_ok hts h⟩
theorem js_setLc (i : Nat) {y : Str} {py spos : Pos} (Sc : FnScope N0 ps0 sc0) (own : List (Str × Nat)) (hi : JI X E m tg iter it)
    (hg : ∀ (s : Shared) (H : Hp) (C : Addr) (cl : List (Str × Addr)) (fp : List Addr), JG (X.blk s H scope (compEnvC scope cl C X.env) fp) m ts tg g) (ht : ∀ (s : Shared) (H : Hp) (C : Addr) (cl : List (Str × Addr)) (fp : List Addr), JTs (X.blk s H scope (compEnvC scope cl C X.env) fp) EF m ifs c)
    (he : ∀ (s : Shared) (H : Hp) (C : Addr) (cl : List (Str × Addr)) (fp : List Addr), JE (X.blk s H scope (compEnvC scope cl C X.env) fp) EF m .sh elt f) (hl : i < m.length := by first | decide | simp) (hc : X.calm = true := by rfl) (hy : X.N[i]? = some y := by rfl) (hyl : X.env.scope.names.lookup y = some .local := by rfl)
    (hsw : swapsWith (.ListComp elt [⟨tg, iter, ifs, 0⟩] scope pos) (some (.Name y py)) spos.line X.env = pure true := by rfl) (hN0 : X.N = N0 := by rfl) (hsc : X.env.scope = sc0 := by rfl) (ok : blkC N0 sc0 scope own = true := by decide +kernel) (hts : ∀ t ∈ ts, t ∈ own.map (·.2) := by decide)
    (hs : ∀ x, foldedSetIterable iter X.env x = pure x := by intro _; rfl) : JS X E L m (m.set i .ow) (.Assign [.Name y py] (.ListComp elt [⟨tg, iter, ifs, 0⟩] scope pos) spos) (fSet i (fLc (own.map (·.2)) it g c f)) := by
  refine ⟨PSimp (ps_setLc (g := tGD X.K X.mg m ts g) (tt := tT X.K X.mg EF m c) (te := tE X.K X.mg EF m .sh f) hc (by rw [hN0]; exact Sc.nd) hy hyl hsw hi.pi (blkOk_by (by rw [hN0, hsc]; exact ok)) (fun s H C cl fp => (hg s H C cl fp).pg) (fun s H C cl fp => (ht s H C cl fp).pt) (fun s H C cl fp => (he s H C cl fp).pe) hs) fun D σ H h => ?_⟩
  obtain ⟨S0, H0, ρ, ⟨S, Fp, st⟩, p⟩ := h
  refine lc_ok hts ⟨S, ρ, st.envM, (lift_post st p).postM fun d v S1 H1 fp s1 o hn hf k => ?_⟩
  refine k _ _ (StF.stM ((st.step s1).set hl o hn (fun a ha => st.1.hh.free (hf a ha)) fun j e' hj ej a ha z => ?_))
  obtain ⟨w, _, o'⟩ := st.2.1.at_ j e' ej
  obtain ⟨_, u, hu⟩ := o'.out ha
  rw [hf a z] at hu
  cases hu
end
end Da
namespace Da
open PySem PySem.Spec L2
def D.en (d : D) : PyData := (D.py d).getD .none
def leD (x y : D) : Bool := PySem.W.dataLe false D.en x y
def SrtOk (ds : List D) : Prop := (∃ bs, D.pys ds = some bs) ∧ PySem.W.AllAlike (ds.map D.en) ∧ PySem.W.Sortable (ds.map D.en) ∧ ∀ d ∈ ds, d.en.depth ≤ 20
def srtOk (ds : List D) : Bool := stuck (SrtOk ds)
def dSorted : D → Res D
  | .lst ds => if srtOk ds = true then .ok (.lst (ds.mergeSort leD)) else .er
  | .tup ds => if srtOk ds = true then .ok (.lst (ds.mergeSort leD)) else .er
  | .frl ds => if srtOk ds = true then .ok (.lst (ds.mergeSort leD)) else .er
  | _ => .er
theorem pys_some : ∀ {ds : List D} {bs : List PyData}, D.pys ds = some bs → bs = ds.map D.en ∧ ∀ d ∈ ds, D.py d = some d.en
  | [], bs, e => by cases e; exact ⟨rfl, fun d h => nomatch h⟩
  | d :: ds, bs, e => by
    unfold D.pys at e
    split at e
    · rename_i y ys e1 e2
      cases e
      obtain ⟨h1, h2⟩ := pys_some e2
      have hy : d.en = y := by unfold D.en; rw [e1]; rfl
      refine ⟨by rw [List.map_cons, ← h1, hy], fun d' hd => ?_⟩
      rcases List.mem_cons.mp hd with rfl | hd
      · rw [hy]; exact e1
      · exact h2 d' hd
    · cases e
mutual
theorem reads_off {h : Heap} {a : Addr} (ha : h.get? a = none) : ∀ (d : PyData) (v : Value) (as : List Addr), PySem.W.alike d d = true → Reads h v d as → a ∉ as
  | .none, _, _, _, r => by cases r; simp
  | .bool _, _, _, _, r => by cases r; simp
  | .int _, _, _, _, r => by cases r; simp
  | .str _, _, _, _, r => by cases r; simp
  | .list xs, _, _, hal, r => by
    cases r with
    | list h1 h2 h3 h4 =>
      rw [List.mem_cons, not_or]
      exact ⟨fun e => by rw [e, h1] at ha; (cases ha), readsAll_off ha xs _ _ (by simpa [PySem.W.alike] using hal) h4⟩
  | .tuple xs, _, _, hal, r => by
    cases r with
    | tuple h1 h2 h3 h4 => exact readsAll_off ha xs _ _ (by simpa [PySem.W.alike] using hal) h4
  | .dict _, _, _, hal, _ => absurd hal (by simp [PySem.W.alike])
theorem readsAll_off {h : Heap} {a : Addr} (ha : h.get? a = none) : ∀ (ds : List PyData) (vs : List Value) (as : List Addr), PySem.W.alikeAll ds ds = true → ReadsAll h vs ds as → a ∉ as
  | [], _, _, _, r => by cases r; simp
  | d :: ds, _, _, hal, r => by
    cases r with
    | cons h1 h2 =>
      rw [List.mem_append, not_or]
      exact ⟨reads_off ha d _ _ (PySem.W.alike_all_cons hal).1 h1, readsAll_off ha ds _ _ (PySem.W.alike_all_cons hal).2 h2⟩
end
section
variable {prog : Program} {w : World} {A : Around} {Er : Value → Shared → Prop} {s : Shared} {β : Type} {its : List Value} {bs : List β} {enc : β → PyData} {R : Value → β → Prop}
theorem sorted_seq {l : Addr} {T : String} {o : Obj} {n : Nat} {Q : Value → Shared → Prop} (hT : T = "list" ∨ T = "tuple") (ho : s.heap.get? l = some o) (hc : o.cls = .type T) (hd : o.data = .seq its.toArray n) (hz : its.length ≤ sizeLine)
    (e : PySem.W.EachIs R its bs) (er : PySem.W.EachIs (fun v b => ∃ as, Reads s.heap v (enc b) as) its bs) (hal : PySem.W.AllAlike (bs.map enc)) (hk : PySem.W.Sortable (bs.map enc)) (hu : ∀ b, b ∈ bs → A.units + 8 + (enc b).depth < cLine)
    (h : ∀ (h1 h2 : Heap) (out : List Value) (ep : Nat), (∀ b o, s.heap.get? b = some o → h1.get? b = some o) → (∀ b o, h1.get? b = some o → h2.get? b = some o) → h2.get? h1.objs.size = some (PyProof.Rows.seqObj "list" (List.toArray out) ep) → PySem.W.EachIs R out (bs.mergeSort (PySem.W.dataLe false enc)) → Q (.ref h1.objs.size) { s with heap := h2 }) :
    wpAny (model prog w) A (call (.builtin "sorted") [.ref l]) Q Er s := by
  refine Calls.call_function_entry PyProof.Rows.kind_sorted PyProof.Rows.plain_sorted PyProof.Rows.entry_sorted (PyProof.Rows.args_sorted1 _) ?_
  unfold Builtin.«sorted»
  refine wpAny_bind (m := checkCount "sorted" 1 1 _) (wpAny_pure ?_)
  refine wpAny_bind (wpAny_collect_seq l hT ho hc hd (fun h1 k1 => ?_) (by rw [List.size_toArray]; exact hz))
  have hl : bs.length ≤ sizeLine := by rw [← e.length]; exact hz
  refine wpAny_bind (wpAny_newList ?_ hz)
  have hS : (h1.push { cls := .type "list", data := .seq its.toArray }).get? h1.objs.size = some (PyProof.Rows.seqObj "list" its.toArray 0) := Heap.get?_push_size _ rfl
  have k2 : ∀ b o, h1.get? b = some o → (h1.push { cls := .type "list", data := .seq its.toArray }).get? b = some o := fun b o q => Heap.get?_push_of_some _ q
  have off : h1.get? h1.objs.size = none := by
    cases q : h1.get? h1.objs.size with
    | none => rfl
    | some o => exact absurd (Heap.lt_size q) (Nat.lt_irrefl _)
  have er2 : PySem.W.EachIs (fun v b => ∃ as, Reads (h1.push { cls := .type "list", data := .seq its.toArray }) v (enc b) as ∧ h1.objs.size ∉ as) its bs :=
    (PySem.W.each_mem er).mono fun v b ⟨⟨as, r⟩, hb⟩ => by
      have r1 := PyProof.Rows.Reads.keeps k1 r
      exact ⟨as, PyProof.Rows.Reads.keeps k2 r1, reads_off off _ _ _ (hal _ (List.mem_map.mpr ⟨b, hb, rfl⟩) _ (List.mem_map.mpr ⟨b, hb, rfl⟩)) r1⟩
  refine wpAny_bind (wpAny_holding (PySem.W.list_sort_data (s := { s with heap := h1.push { cls := .type "list", data := .seq its.toArray } }) (a := h1.objs.size) hS e er2 hal hk hl (fun b hb => ?_) fun out _ ho2 => ?_))
  · have := hu b hb
    show A.units + _ + 1 + (enc b).depth < cLine
    omega
  · obtain ⟨ep, q⟩ := PyProof.Rows.sortedHeap_at (out := List.toArray out) hS
    refine wpAny_pure ⟨_, rfl, h h1 _ out ep k1 (fun b o q' => ?_) q ho2⟩
    have hlt := Heap.lt_size q'
    rw [PyProof.Rows.sortedHeap_old (Nat.ne_of_lt hlt) (by rw [Heap.size_push]; exact Nat.lt_succ_of_lt hlt)]
    exact k2 b o q'
end
/-- sorted(xs), of a list or a tuple -/
def rSortD (K : PySem.W.Frag) (mg : Str → Option Value) : List V → Hp → VK → Prop := fun vs H Q => ∃ (S : Hp) (a : Addr) (xs : List V) (ds : List D), vs = [V.ref a] ∧ (SqL K H a xs ∨ SqT K H a xs) ∧ Same S H ∧ RepL K mg S xs ds ∧ SrtOk ds ∧
  ∀ (p : Addr) (ys : List V), RepL K mg S ys (ds.mergeSort leD) → H p = none → Q (.ref p) (upd H p (.lst ys))
theorem each_zip {K : PySem.W.Frag} {mg : Str → Option Value} {S : Hp} : ∀ {xs : List V} {ds : List D} {us : List Value}, RepL K mg S xs ds → Vals xs us → PySem.W.EachIs (fun v (b : V × D) => RelV b.1 v) us (xs.zip ds)
  | [], _, _, _, .nil => .nil
  | x :: xs, [], _, h, _ => by have := h.len; simp at this
  | x :: xs, d :: ds, _, h, .cons r t => .cons r (each_zip h.tail t)
theorem each_out : ∀ {us : List Value} {zs : List (V × D)}, PySem.W.EachIs (fun v (b : V × D) => RelV b.1 v) us zs → Vals (zs.map (·.1)) us
  | _, _, .nil => .nil
  | _, _, .cons h t => .cons h (each_out t)
theorem zip_snd {α β : Type} : ∀ {xs : List α} {ds : List β}, xs.length = ds.length → (xs.zip ds).map (·.2) = ds
  | [], [], _ => rfl
  | [], _ :: _, h => by simp at h
  | _ :: _, [], h => by simp at h
  | x :: xs, d :: ds, h => by rw [List.zip_cons_cons, List.map_cons, zip_snd (by simpa using h)]
section
variable {X : Cx} {E : WX} {m : Mds} {e : Expr} {fs : Env → Res (List D)} {p pos : Pos}
theorem cr_sortD (hu : X.A.units + 40 < cLine) : CallR X (.builtin "sorted") (rSortD X.K X.mg) := by
  intro pins s σ H vs us Q I r h
  obtain ⟨S, a, xs, ds, rfl, hq, hS, rv, ⟨⟨bs, eb⟩, hal, hso, hdp⟩, q⟩ := h
  obtain ⟨u, rfl, ru⟩ := Vals.one r
  cases ru
  have main : ∀ (T : String) (o : Obj) (its : List Value) (n : Nat), (T = "list" ∨ T = "tuple") → s.heap.get? a = some o → o.cls = .type T → o.data = .seq its.toArray n → xs.length ≤ sizeLine → Vals xs its → wpAny (model X.prog X.w) X.A (call (.builtin "sorted") [.ref a]) (EP X pins σ Q) X.xe s := by
    intro T o its n hT ho hc hd hz vv
    obtain ⟨eqb, hpy⟩ := pys_some eb
    have zs := zip_snd rv.len
    have e1 := each_zip rv vv
    have e2 : PySem.W.EachIs (fun v (b : V × D) => ∃ as, Reads s.heap v b.2.en as) its (xs.zip ds) := (PySem.W.each_mem e1).mono fun v b ⟨hr, hb⟩ => by
      obtain ⟨i, hi⟩ := List.mem_iff_getElem?.mp hb
      rw [List.getElem?_zip_eq_some] at hi
      exact Dp.reads I b.2.en b.1 v (dp_mono hS (dp_of b.2 b.1 _ (rv.at_ i b.1 b.2 hi.1 hi.2) (hpy _ (List.mem_of_getElem? hi.2)))) hr
    have em : (xs.zip ds).map (fun b => b.2.en) = ds.map D.en := by
      rw [show (fun b : V × D => b.2.en) = D.en ∘ (·.2) from rfl, ← List.map_map, zs]
    refine sorted_seq (enc := fun b : V × D => b.2.en) hT ho hc hd (by rw [← vv.length]; exact hz) e1 e2 (by rw [em]; exact hal) (by rw [em]; exact hso) (fun b hb => ?_) fun h1 h2 out ep k1 k2 hp ho2 => ?_
    · have := hdp b.2 (by rw [← zs]; exact List.mem_map.mpr ⟨b, hb, rfl⟩)
      omega
    · have I1 : Inv X pins σ H { s with heap := h1 } := I.kept (t' := s.toks) k1
      generalize hzs : (xs.zip ds).mergeSort (PySem.W.dataLe false fun b => b.2.en) = zs2 at ho2
      have pm : zs2.Perm (xs.zip ds) := by rw [← hzs]; exact List.mergeSort_perm _ _
      have es : zs2.map (·.2) = ds.mergeSort leD := by
        have q1 := List.map_mergeSort (r := PySem.W.dataLe false fun b : V × D => b.2.en) (s := leD) (f := fun b : V × D => b.2) (l := xs.zip ds) (fun a _ b _ => rfl)
        rw [← hzs, q1, zs]
      have rz : RepL X.K X.mg S (zs2.map (·.1)) (ds.mergeSort leD) := by
        rw [← es]
        refine ⟨by rw [List.length_map, List.length_map], fun i v d a b => ?_⟩
        rw [List.getElem?_map] at a b
        cases ez : zs2[i]? with
        | none => rw [ez] at a; cases a
        | some c =>
          rw [ez] at a b
          cases a; cases b
          obtain ⟨j, hj⟩ := List.mem_iff_getElem?.mp (pm.mem_iff.mp (List.mem_of_getElem? ez))
          rw [List.getElem?_zip_eq_some] at hj
          exact rv.at_ j _ _ hj.1 hj.2
      have hl : (zs2.map (·.1)).length ≤ sizeLine := by
        rw [rz.len, List.length_mergeSort, ← rv.len]
        exact hz
      exact ⟨.ref _, upd H h1.objs.size (.lst (zs2.map (·.1))), I1.laid (t' := s.toks) k2 (Nat.le_refl _) ⟨hl, out, ep, each_out ho2, hp⟩, rfl, q _ _ rz (I1.hok.fresh (Nat.le_refl _))⟩
  rcases hq with hq | hq
  · obtain ⟨its, vv, ⟨o, n, ho, hc, _, hd⟩, hz⟩ := I.list hq
    exact main "list" o its n (.inl rfl) ho hc hd hz vv
  · obtain ⟨its, vv, ⟨o, ho, hc, n, hd⟩, hz⟩ := I.tuple hq
    exact main "tuple" o its n (.inr rfl) ho hc hd hz vv
theorem je_sorted (hr : RmU X.A) (hm : X.mg "sorted" = none) (ha : JA X E m [e] fs) (hg : Gl X "sorted" := by rfl) (he : starEach [e] X.env = (false, eval e X.env) :: starEach [] X.env := by rfl) : JE X E m .ow (.Call (.Name "sorted" p) [e] [] pos) (fOn (on1 dSorted) fs) :=
  je_callB (cr_sortD (by unfold RmU at hr; omega)) (calld1 fun E S H x d Q hs rx hp => by
    cases d with
    | lst xs =>
      obtain ⟨hz, hp⟩ := Post.of_if hp
      obtain ⟨a, vs, rfl, ha, rv⟩ := rx.of_lst
      exact ⟨S, a, vs, xs, rfl, .inl (.inl (.inl (hs _ _ ha))), hs, rv, stuck_iff.mp hz, fun p ys ry hl => Post.list (.inr rfl) hp hs ry hl⟩
    | frl xs =>
      obtain ⟨hz, hp⟩ := Post.of_if hp
      obtain ⟨a, vs, rfl, ha, rv⟩ := rx.of_frl
      exact ⟨S, a, vs, xs, rfl, .inl (same_l hs ha), hs, rv, stuck_iff.mp hz, fun p ys ry hl => Post.list (.inr rfl) hp hs ry hl⟩
    | tup xs =>
      obtain ⟨hz, hp⟩ := Post.of_if hp
      obtain ⟨a, vs, rfl, ha, rv⟩ := rx.of_tup
      exact ⟨S, a, vs, xs, rfl, .inr (same_t hs ha), hs, rv, stuck_iff.mp hz, fun p ys ry hl => Post.list (.inr rfl) hp hs ry hl⟩
    | _ => exact hp.elim) hm ha hg (by decide +kernel) (by decide) (by decide) he (by rfl)
end
end Da
namespace Da
open PySem PySem.Spec L2
theorem enum_new {v : Value} {o : Obj} {G : Heap → Prop} (B : Begins v o G) :
    Meets (Builtin.«enumerate.__new__» ⟨[.type "enumerate", v], []⟩) (fun _ R s => G s.heap ∧
      R (.ok (.ret (.ref (s.heap.push o).objs.size))) { s with heap := (s.heap.push o).push { cls := .type "enumerate", data := .fields #[.none, .bool false, .ref s.heap.objs.size, rawInt 0, .none, .none] } }) :=
  .of_wp fun prog w A R s hh => by
    obtain ⟨hp, g, d, tk, os⟩ := s
    obtain ⟨hg, hh⟩ := hh
    have hsb := sub_enumerate
    have walk : ∀ {A' : Around} {Er : Value → Shared → Prop} {Qv : Value → Shared → Prop}, Qv (.ref hp.objs.size) ⟨hp.push o, g, d, tk, os⟩ → wpAny (model prog w) A' (pyIter v) Qv Er ⟨hp, g, d, tk, os⟩ := fun q => B.iter prog w _ _ ⟨hp, g, d, tk, os⟩ _ hg q
    wp_walk using walk
    refine wpAny_stack_any fun stk => wpAny_pure ?_
    split
    · rename_i c _ _ _ _ _
      cases (c == Value.type "enumerate") <;> (wp_walk using walk; exact ⟨_, rfl, hh⟩)
    · wp_walk using walk; exact ⟨_, rfl, hh⟩
theorem call_enumT {prog : Program} {w : World} {A : Around} {Er : Value → Shared → Prop} {s : Shared} {t : Addr} {items : Array Value} {Q : Value → Shared → Prop} (ht : s.heap.IsTuple t items)
    (h : ∀ h', IsEnum h' (s.heap.objs.size + 1) s.heap.objs.size 0 .none → h'.IsTupleIter s.heap.objs.size t 0 → (∀ b o, s.heap.get? b = some o → h'.get? b = some o) → Q (.ref (s.heap.objs.size + 1)) { s with heap := h' }) :
    wpAny (model prog w) A (call (.type "enumerate") [.ref t]) Q Er s := by
  refine callType_new F.called_enumerate (by decide) (F.typeCall_enumerate_1 _) (F.newCall_enumerate_1 _) (fun obj => F.args_object_init_2 obj _) F.entry_enumerate_new (enum_new (begins_tuple t items)) ⟨ht, ?_⟩
  have hz : (s.heap.push { cls := .type "tuple_iterator", data := .fields #[.ref t, .int 0 0] }).objs.size = s.heap.objs.size + 1 := Heap.size_push ..
  show _ ∧ _
  rw [hz]
  have he : IsEnum ((s.heap.push { cls := .type "tuple_iterator", data := .fields #[.ref t, .int 0 0] }).push { cls := .type "enumerate", data := .fields #[.none, .bool false, .ref s.heap.objs.size, rawInt 0, .none, .none] }) (s.heap.objs.size + 1) s.heap.objs.size 0 .none := by
    have q := Heap.get?_push_size (s.heap.push { cls := .type "tuple_iterator", data := .fields #[.ref t, .int 0 0] }) (o := { cls := .type "enumerate", data := .fields #[.none, .bool false, .ref s.heap.objs.size, rawInt 0, .none, .none] }) rfl
    rw [hz] at q
    exact q
  exact ⟨⟨_, he, rfl⟩, h _ he ⟨_, Heap.get?_push_of_some _ (Heap.get?_push_size _ rfl), rfl, rfl⟩ fun b o x => Heap.get?_push_of_some _ (Heap.get?_push_of_some _ x)⟩
/-- the tuple at a, each item in a new pair -/
def IteT (K : PySem.W.Frag) (a : Addr) : It :=
  ⟨fun i H => ∃ (xs : List V) (x : V), SqT K H a xs ∧ xs[i]? = some x, fun i H v H' => ∃ T x, v = .ref T ∧ H T = none ∧ H' = upd H T (.tup [.int (i : Nat), x]) ∧ ∀ xs, SqT K H a xs → xs[i]? = some x, fun i H => ∃ xs : List V, SqT K H a xs ∧ xs.length ≤ i⟩
theorem turn_enumT {P : Program} {w : World} {K : PySem.W.Frag} {elts : List Expr} {kk : Nat} {tpos : Pos} (a e it : Addr) :
    L2.Turn P w K (.Tuple elts kk tpos) (IteT K a) [e, it] e (fun i h => (∃ old, IsEnum h e it ((i : Nat) : Int) old) ∧ h.IsTupleIter it a i ∧ e ≠ it) where
  mem := by simp
  obj := fun i h st b hb => by
    obtain ⟨⟨old, he⟩, ⟨o, ho, hc, hd⟩, _⟩ := st
    rcases (show b = e ∨ b = it by simpa using hb) with z | z
    · rw [z]; exact ⟨_, he, fun v q => nomatch q⟩
    · rw [z]; exact ⟨o, ho, fun v q => by rw [hd] at q; cases q⟩
  keep := fun i h h' st k => let ⟨⟨old, he⟩, hi, hne⟩ := st; ⟨⟨old, k e (by simp) _ he⟩, hi.at fun o q => k it (by simp) o q, hne⟩
  item := by
    intro X hP hw hK hc i pins s σ H Er I hf st hg
    subst hP hw hK
    obtain ⟨⟨old, he⟩, hit, hne⟩ := st
    obtain ⟨xs, x, hq, hx⟩ := hg
    obtain ⟨its, rv, p, hz⟩ := I.tuple hq
    obtain ⟨u, hu, ru⟩ := rv.get hx
    have hel : e < s.heap.objs.size := Heap.lt_size he
    have hil : it < s.heap.objs.size := by obtain ⟨_, q, _⟩ := hit; exact Heap.lt_size q
    have ht : s.heap.IsTuple a its.toArray := p
    have hea : e ≠ a := fun z => by
      obtain ⟨o, ho, hco, _⟩ := ht
      rw [← z, he] at ho
      cases ho
      exact absurd (show Value.type "enumerate" = Value.type "tuple" from hco) (by decide)
    have hia : a ≠ it := fun z => by
      obtain ⟨o, ho, hco, _⟩ := ht
      obtain ⟨o2, ho2, hc2, _⟩ := hit
      rw [z, ho2] at ho
      cases ho
      rw [hc2] at hco
      exact absurd hco (by decide)
    have hlt : i < its.toArray.size := by
      rw [List.size_toArray]
      exact (List.getElem?_eq_some_iff.mp hu).1
    refine wpAny_pyNext_enum_itemD (Draws.tuple (A := X.A.in1) (I.ok.hd hc) it a hia its.toArray) he ⟨hit, ht⟩ hlt hne (by simp [hne, hea]) fun y h' tk hy ho hst hT hsz hk => ?_
    have hyu : y = u := by
      have q : its[i]? = some y := by simpa using hy
      rw [hu] at q
      injection q with q
      exact q.symm
    subst hyu
    refine ⟨_, rfl, wpAny_letOwnedTupleGo_enum (s := { s with heap := h', toks := tk + 1 }) ho fun h'' he' sb => ?_⟩
    have hT2 : h''.get? s.heap.objs.size = some { cls := .type "tuple", data := .seq #[.int i tk, y] } := (sb.2 _ (Nat.ne_of_gt hel)).trans hT
    have new : ObjOk X.prog X.w (upd H s.heap.objs.size (.tup [.int (i : Nat), x])) h'' s.heap.objs.size (.tup [.int (i : Nat), x]) :=
      ⟨by show 2 ≤ sizeLine; decide, [.int i tk, y], .cons ⟨_, rfl⟩ (.cons ru .nil), ⟨_, hT2, rfl, _, rfl⟩⟩
    have I1 : Inv X pins σ (upd H s.heap.objs.size (.tup [.int (i : Nat), x])) { s with heap := h'', toks := tk + 1 } :=
      I.turnedNew (ch := [e, it]) (fun b ob hb q => (sb.2 b (fun z => hb (by simp [z]))).trans (hk b ob (fun z => hb (by simp [z])) (fun z => hb (by simp [z])) q)) hf (Nat.le_refl _) new
    refine ⟨.ref s.heap.objs.size, _, I1, rfl, ⟨_, x, rfl, I.hok.fresh (Nat.le_refl _), rfl, fun ys hy => by rw [I.tuple_inj hy hq]; exact hx⟩, ⟨⟨y, ?_⟩, hst.1.at fun o q => (sb.2 it (Ne.symm hne)).trans q, hne⟩, fun b hb => ?_⟩
    · rw [show ((i + 1 : Nat) : Int) = (i : Int) + 1 by omega]
      exact he'
    · have hlt2 : b < s.heap.objs.size := by
        rcases (show b = e ∨ b = it by simpa using hb) with z | z
        · rw [z]; exact hel
        · rw [z]; exact hil
      rw [upd_ne (Nat.ne_of_lt hlt2)]
      exact (hf b hb).1
  done := by
    intro X hP hw hK hc i pins s σ H Er I hf st hg
    subst hP hw hK
    obtain ⟨⟨old, he⟩, hit, hne⟩ := st
    obtain ⟨xs, hq, hx⟩ := hg
    obtain ⟨its, rv, p, hz⟩ := I.tuple hq
    have hl := rv.length
    have ht : s.heap.IsTuple a its.toArray := p
    obtain ⟨f0, f1, f2, f3, f4, f5⟩ := hf it (by simp)
    have hT : s.TypeIs (.ref e) "enumerate" := ⟨_, he, rfl⟩
    unfold pyNext
    refine wpAny_bind (wpAny_attempt (wpAny_callSpecial?_slot (name := Str.ofString "__next__") hT F.slot_enumerate_next (wpAny_call_entry F.slot_enumerate_next hT F.entry_enumerate_next ?_ (F.args_enumerate_next_1 _))))
    show wpAny _ _ (field (.ref e) 2 >>= _) _ _ _
    refine wpAny_bind (wpAny_field he rfl (x := .ref it) rfl (wpAny_bind (wpAny_nextOf_tuple_end (I.ok.hd hc) hit ht (by simp; omega) fun h' x hx1 hx2 => ?_)))
    obtain ⟨o, ho, hco⟩ := hx2
    exact wpAny_bind (wpAny_isInstance (T := "StopIteration") (b := true) ⟨o, ho, hco⟩ isSubtype_stop (wpAny_pure ⟨rfl, I.turned (t' := s.toks) (fun b o hb q => hx1 b o hb q) f0 f1 f3 f4 f5⟩))
  self := fun A i s Q Er st h => let ⟨⟨_, he⟩, _⟩ := st; wpAny_pyIter_enum he h
def iEnumA (K : PySem.W.Frag) (ta : TA) : TI := fun σ H R => ta σ H fun vs H1 => ∃ a xs, vs = [.ref a] ∧ (SqL K H1 a xs ∧ R (Ite K a) H1 ∨ SqT K H1 a xs ∧ R (IteT K a) H1)
theorem pi_enumA {X : Cx} {e : Expr} {ta : TA} {p pos tpos : Pos} {elts : List Expr} {kk : Nat} (hg : Gl X "enumerate") (hm : X.mg "enumerate" = none) (ha : PA X [e] ta) (hs : starEach [e] X.env = [(false, eval e X.env)] := by rfl) :
    PI X (.Tuple elts kk tpos) (.Call (.Name "enumerate" p) [e] [] pos) (iEnumA X.K ta) := by
  refine ⟨fun pins s σ H R I h => PyProof.Rows.Call_ (ld_blt I hg hm PyProof.Rows.boot_enumerate (PyProof.Rows.callWith_type1 (thn (ha.run pos pins s σ H _ I h) fun us s1 ⟨vs, H1, I1, r1, q1⟩ => ?_) hs rfl))⟩
  obtain ⟨a, xs, rfl, q1⟩ := q1
  obtain ⟨u, rfl, ru⟩ := Vals.one r1
  cases ru
  have fresh : ∀ b, b ∈ [s1.heap.objs.size + 1, s1.heap.objs.size] → FpOk X pins H1 b := fun b hb => by
    have hle : s1.heap.objs.size ≤ b := by
      rcases (show b = s1.heap.objs.size + 1 ∨ b = s1.heap.objs.size by simpa using hb) with z | z
      · rw [z]; exact Nat.le_add_right _ _
      · rw [z]; exact Nat.le_refl _
    exact I1.fpOk hle (I1.hok.fresh hle)
  rcases q1 with ⟨hq, q⟩ | ⟨hq, q⟩
  · obtain ⟨its, rv, pl, _⟩ := I1.list hq
    refine call_enumerate_list pl.isList fun h' he hit _ hk => wpAny_pyIter_enum he ?_
    exact ⟨_, _, _, _, H1, rfl, I1.kept (t' := s1.toks) hk, turn_enum a (s1.heap.objs.size + 1) s1.heap.objs.size, ⟨⟨.none, he⟩, hit, Nat.succ_ne_self _⟩, fresh, q⟩
  · obtain ⟨its, rv, pl, _⟩ := I1.tuple hq
    refine call_enumT (show s1.heap.IsTuple a its.toArray from pl) fun h' he hit hk => wpAny_pyIter_enum he ?_
    exact ⟨_, _, _, _, H1, rfl, I1.kept (t' := s1.toks) hk, turn_enumT a (s1.heap.objs.size + 1) s1.heap.objs.size, ⟨⟨.none, he⟩, hit, Nat.succ_ne_self _⟩, fresh, q⟩
def tGsD (K : PySem.W.Frag) (mg : Str → Option Value) (m : Mds) (ts : List Nat) (g : List D → Env → Res Env) : TGs := fun vs σ H Q => ∃ S0 H0 S F ρ ds, StF K mg m S0 H0 S F σ ρ H ∧ RepL K mg S vs ds ∧ (match g ds ρ with
  | .ok ρ1 => ∀ σ1 S1 F1 H1, StF K mg m S0 H0 S1 F1 σ1 ρ1 H1 → Step S H S1 H1 → (σ1.length = σ.length ∧ ∀ j, j ∉ ts → σ1[j]? = σ[j]?) → Q σ1 H1
  | _ => False)
structure JGs (X : Cx) (m : Mds) (ts : List Nat) (es : List Expr) (g : List D → Env → Res Env) : Prop where
  pgs : PGs X es (tGsD X.K X.mg m ts g)
def gs0 : List D → Env → Res Env := fun ds ρ => match ds with
  | [] => .ok ρ
  | _ => .er
def gsC (g : D → Env → Res Env) (r : List D → Env → Res Env) : List D → Env → Res Env := fun ds ρ => match ds with
  | d :: ds => (match g d ρ with
    | .ok ρ1 => r ds ρ1
    | _ => .er)
  | [] => .er
def gT (r : List D → Env → Res Env) : D → Env → Res Env := fun d ρ => match d with
  | .tup ds => r ds ρ
  | _ => .er
section
variable {X : Cx} {E : WX} {m : Mds} {ts us : List Nat} {tg e : Expr} {es elts : List Expr} {g : D → Env → Res Env} {r : List D → Env → Res Env} {fs : Env → Res (List D)} {p pos tpos : Pos} {kk : Nat}
theorem jgs_nil : JGs X m [] [] gs0 := by
  refine ⟨⟨fun pins s σ H vs uv Q I rv h => pgs_nil.run pins s σ H vs uv Q I rv ?_⟩⟩
  obtain ⟨S0, H0, S, F, ρ, ds, st, rd, q⟩ := h
  match ds, rd, q with
  | [], rd, q => exact ⟨rd.nil_iff.mpr rfl, q σ S F H st (Step.refl st.1.sub) ⟨rfl, fun _ _ => rfl⟩⟩
  | _ :: _, _, q => exact q.elim
theorem jgs_cons (h1 : JG X m ts e g) (h2 : JGs X m us es r) (hs : (assignEach (e :: es) X.env).map (·.2) = assign e X.env :: (assignEach es X.env).map (·.2) := by rfl) : JGs X m (ts ++ us) (e :: es) (gsC g r) := by
  refine ⟨⟨fun pins s σ H vs uv Q I rv h => (pgs_cons h1.pg h2.pgs hs).run pins s σ H vs uv Q I rv ?_⟩⟩
  obtain ⟨S0, H0, S, F, ρ, ds, st, rd, q⟩ := h
  match ds, rd, q with
  | [], _, q => exact q.elim
  | d :: ds, rd, q =>
    match vs, rd with
    | [], rd => have := rd.len; simp at this
    | v :: vs, rd =>
      refine ⟨v, vs, rfl, S0, H0, S, F, ρ, d, st, rd.head, ?_⟩
      unfold gsC at q
      simp only at q
      cases eg : g d ρ with
      | ok ρ1 =>
        rw [eg] at q
        simp only at q
        refine fun σ1 S1 F1 H1 st1 s1 fr1 => ⟨S0, H0, S1, F1, ρ1, ds, st1, rd.tail.mono s1.ss, ?_⟩
        cases er : r ds ρ1 with
        | ok ρ2 =>
          rw [er] at q
          refine fun σ2 S2 F2 H2 st2 s2 fr2 => q σ2 S2 F2 H2 st2 (s1.trans s2) ⟨fr2.1.trans fr1.1, fun j hj => ?_⟩
          rw [List.mem_append, not_or] at hj
          exact (fr2.2 j hj.2).trans (fr1.2 j hj.1)
        | ex c fs => rw [er] at q; exact q.elim
        | er => rw [er] at q; exact q.elim
      | ex c fs => rw [eg] at q; exact q.elim
      | er => rw [eg] at q; exact q.elim
/-- (a, b, ..) takes a tuple of that length -/
theorem jg_tup (h : JGs X m ts es r) (hr : ∀ ds ρ ρ1, r ds ρ = .ok ρ1 → ds.length = es.length) (hc : X.calm = true := by rfl) (hn : (assignEach es X.env).length = es.length := by rfl) (hst : (assignEach es X.env).findIdx? (·.1) = none := by rfl) : JG X m ts (.Tuple es kk tpos) (gT r) := by
  refine ⟨⟨fun pins s σ H v u Q I rv hq => (pg_tup hc h.pgs hn hst).run pins s σ H v u Q I rv ?_⟩⟩
  obtain ⟨S0, H0, S, F, ρ, d, st, rd, q⟩ := hq
  cases d with
  | tup ds =>
    obtain ⟨a, vs, rfl, ha, rs⟩ := rd.of_tup
    have q : (match r ds ρ with
      | .ok ρ1 => ∀ σ1 S1 F1 H1, StF X.K X.mg m S0 H0 S1 F1 σ1 ρ1 H1 → Step S H S1 H1 → (σ1.length = σ.length ∧ ∀ j, j ∉ ts → σ1[j]? = σ[j]?) → Q σ1 H1
      | _ => False) := q
    cases er : r ds ρ with
    | ok ρ1 => exact ⟨a, vs, rfl, same_t st.1.sub ha, by rw [rs.len]; exact hr ds ρ ρ1 er, S0, H0, S, F, ρ, ds, st, rs, q⟩
    | ex c fs => rw [er] at q; exact q.elim
    | er => rw [er] at q; exact q.elim
  | _ => exact q.elim
theorem gs0_len (ds : List D) (ρ ρ1 : Env) (h : gs0 ds ρ = .ok ρ1) : ds.length = 0 := by
  cases ds with
  | nil => rfl
  | cons d ds => cases h
theorem gsC_len {n : Nat} {g : D → Env → Res Env} {r : List D → Env → Res Env} (hr : ∀ ds ρ ρ1, r ds ρ = .ok ρ1 → ds.length = n) (ds : List D) (ρ ρ1 : Env) (h : gsC g r ds ρ = .ok ρ1) : ds.length = n + 1 := by
  cases ds with
  | nil => cases h
  | cons d ds =>
    unfold gsC at h
    simp only at h
    split at h
    · rw [List.length_cons, hr ds _ _ h]
    · cases h
theorem jg_tup2 {a b : Expr} {ga gb : D → Env → Res Env} (h1 : JG X m ts a ga) (h2 : JG X m us b gb) (hc : X.calm = true := by rfl) (ha : (assignEach [a, b] X.env).map (·.2) = assign a X.env :: (assignEach [b] X.env).map (·.2) := by rfl) (hb : (assignEach [b] X.env).map (·.2) = assign b X.env :: (assignEach [] X.env).map (·.2) := by rfl)
    (hn : (assignEach [a, b] X.env).length = 2 := by rfl) (hst : (assignEach [a, b] X.env).findIdx? (·.1) = none := by rfl) : JG X m (ts ++ (us ++ [])) (.Tuple [a, b] kk tpos) (gT (gsC ga (gsC gb gs0))) :=
  jg_tup (jgs_cons h1 (jgs_cons h2 jgs_nil hb) ha) (gsC_len (gsC_len gs0_len)) hc hn hst
def enumD (i : Nat) : List D → List D
  | [] => []
  | x :: xs => .tup [.int (i : Nat), x] :: enumD (i + 1) xs
theorem enumD_length : ∀ {xs : List D} {i : Nat}, (enumD i xs).length = xs.length
  | [], _ => rfl
  | x :: xs, i => by unfold enumD; rw [List.length_cons, List.length_cons, enumD_length]
theorem enumD_at : ∀ {xs : List D} {i j : Nat}, (enumD i xs)[j]? = (xs[j]?).map fun x => .tup [.int ((i + j : Nat) : Int), x]
  | [], _, _ => by simp [enumD]
  | x :: xs, i, 0 => by simp [enumD]
  | x :: xs, i, j + 1 => by
    unfold enumD
    rw [List.getElem?_cons_succ, List.getElem?_cons_succ, enumD_at, show i + 1 + j = i + (j + 1) by omega]
def dEnum : List D → Res (List D)
  | [d] => (asL d).bind fun xs => .ok (enumD 0 xs)
  | _ => .er
def fEnum (fs : Env → Res (List D)) : Env → Res (List D) := fun ρ => (fs ρ).bind dEnum
theorem walk_e {K : PySem.W.Frag} {mg : Str → Option Value} {S : Hp} {a : Addr} {vs : List V} {ds : List D} (r : RepL K mg S vs ds) (h : SqL K S a vs) : WalkD K mg (Ite K a) S (enumD 0 ds) where
  go := fun i d S1 H1 e s1 s2 => by
    rw [enumD_at, Nat.zero_add] at e
    cases ed : ds[i]? with
    | none => rw [ed] at e; cases e
    | some d0 =>
      rw [ed] at e
      cases e
      obtain ⟨v, ev, rv⟩ := r.get ed
      refine ⟨⟨vs, v, same_l s2 (same_l s1 h), ev⟩, fun x H2 ⟨T, y, e1, hT, e2, hy⟩ => ?_⟩
      subst e1 e2
      have := hy vs (same_l s2 (same_l s1 h))
      rw [ev] at this
      cases this
      have st := Step.laid (o := HO.tup [.int (i : Nat), v]) s2 hT
      exact ⟨_, st, Rep.tupL upd_same (.cons (.int _) (.cons ((rv.mono s1).mono st.ss) .nil))⟩
  stop := fun S1 H1 s1 s2 => ⟨vs, same_l s2 (same_l s1 h), by rw [enumD_length]; exact Nat.le_of_eq r.len⟩
theorem walk_eT {K : PySem.W.Frag} {mg : Str → Option Value} {S : Hp} {a : Addr} {vs : List V} {ds : List D} (r : RepL K mg S vs ds) (h : SqT K S a vs) : WalkD K mg (IteT K a) S (enumD 0 ds) where
  go := fun i d S1 H1 e s1 s2 => by
    rw [enumD_at, Nat.zero_add] at e
    cases ed : ds[i]? with
    | none => rw [ed] at e; cases e
    | some d0 =>
      rw [ed] at e
      cases e
      obtain ⟨v, ev, rv⟩ := r.get ed
      refine ⟨⟨vs, v, same_t s2 (same_t s1 h), ev⟩, fun x H2 ⟨T, y, e1, hT, e2, hy⟩ => ?_⟩
      subst e1 e2
      have := hy vs (same_t s2 (same_t s1 h))
      rw [ev] at this
      cases this
      have st := Step.laid (o := HO.tup [.int (i : Nat), v]) s2 hT
      exact ⟨_, st, Rep.tupL upd_same (.cons (.int _) (.cons ((rv.mono s1).mono st.ss) .nil))⟩
  stop := fun S1 H1 s1 s2 => ⟨vs, same_t s2 (same_t s1 h), by rw [enumD_length]; exact Nat.le_of_eq r.len⟩
theorem dEnum_ok {ds xs : List D} (h : dEnum ds = .ok xs) : ∃ d ys, ds = [d] ∧ asL d = .ok ys ∧ xs = enumD 0 ys := by
  unfold dEnum at h
  split at h
  · rename_i d
    cases e : asL d with
    | ok ys => rw [e] at h; cases h; exact ⟨d, ys, rfl, e, rfl⟩
    | ex c fs => rw [e] at h; cases h
    | er => rw [e] at h; cases h
  · cases h
theorem asL_ex {d : D} {c : Str} {fs : List (Str × D)} : asL d ≠ .ex c fs := by
  cases d <;> exact fun z => nomatch z
theorem dEnum_ex {ds : List D} {c : Str} {fs : List (Str × D)} : dEnum ds ≠ .ex c fs := by
  unfold dEnum
  split
  · rename_i d
    cases e : asL d with
    | ok ys => exact fun z => nomatch z
    | ex c fs => exact absurd e asL_ex
    | er => exact fun z => nomatch z
  · exact fun z => nomatch z
theorem ji_enum (ha : JA X E m [e] fs) (hm : X.mg "enumerate" = none) (hg : Gl X "enumerate" := by rfl) (hs : starEach [e] X.env = [(false, eval e X.env)] := by rfl) : JI X E m (.Tuple elts kk tpos) (.Call (.Name "enumerate" p) [e] [] pos) (fEnum fs) := by
  refine ⟨⟨fun pins s σ H R I h => (pi_enumA hg hm ha.pa hs).run pins s σ H R I ?_⟩⟩
  obtain ⟨S, ρ, hm, hp⟩ := h
  refine ⟨S, ρ, hm, (PostW.bind hp).imp fun ds S1 H1 s1 k vs rv => ?_⟩
  obtain ⟨xs, e, k⟩ := PostW.okOf k fun _ _ => dEnum_ex
  obtain ⟨d, ys, rfl, ey, rfl⟩ := dEnum_ok e
  obtain ⟨v, rfl, rd⟩ := repl1 rv
  cases d with
  | lst xs =>
    cases ey
    obtain ⟨a, vs, rfl, ha, rv⟩ := rd.of_lst
    exact ⟨a, vs, rfl, .inl ⟨.inl (.inl (s1.sub _ _ ha)), k S1 H1 (Step.refl s1.sub) _ (walk_e rv (.inl (.inl ha)))⟩⟩
  | frl xs =>
    cases ey
    obtain ⟨a, vs, rfl, ha, rv⟩ := rd.of_frl
    exact ⟨a, vs, rfl, .inl ⟨same_l s1.sub ha, k S1 H1 (Step.refl s1.sub) _ (walk_e rv ha)⟩⟩
  | tup xs =>
    cases ey
    obtain ⟨a, vs, rfl, ha, rv⟩ := rd.of_tup
    exact ⟨a, vs, rfl, .inr ⟨same_t s1.sub ha, k S1 H1 (Step.refl s1.sub) _ (walk_eT rv ha)⟩⟩
  | _ => cases ey
end
end Da
namespace Da
open PySem PySem.Spec L2
def tX (K : PySem.W.Frag) (mg : Str → Option Value) (m : Mds) (f : Env → Res (D × Env)) : TE := fun σ H Q => ∃ S0 H0 S F ρ, StF K mg m S0 H0 S F σ ρ H ∧ (match f ρ with
  | .ok (d, ρ1) => ∀ v S1 F1 H1, Same S S1 → StF K mg m S0 H0 S1 F1 σ ρ1 H1 → Rep K mg S1 v d → Q v H1
  | _ => False)
structure JX (X : Cx) (m : Mds) (e : Expr) (f : Env → Res (D × Env)) : Prop where
  pe : PE X e (tX X.K X.mg m f)
def fPop (i : Nat) (f : Env → Res D) : Env → Res (D × Env) := fun ρ => match ρ[i]? with
  | some (some (.lst xs)) => (match f ρ with
    | .ok (.int z) => (match ixN xs.length z with
      | some k => (match xs[k]? with
        | some y => if szOk xs.length = true then .ok (y, ρ.set i (some (.lst (xs.eraseIdx k)))) else .er
        | none => .er)
      | none => .er)
    | _ => .er)
  | _ => .er
def fPop0 (i : Nat) : Env → Res (D × Env) := fun ρ => match ρ[i]? with
  | some (some (.lst xs)) => (match xs[xs.length - 1]? with
    | some y => .ok (y, ρ.set i (some (.lst xs.dropLast)))
    | none => .er)
  | _ => .er
def fSetX (i : Nat) (f : Env → Res (D × Env)) : FS := fun ρ => match f ρ with
  | .ok (d, ρ1) => .ok (.nx (ρ1.set i (some d)))
  | _ => .er
def fAppX (i : Nat) (f : Env → Res (D × Env)) : FS := fun ρ => match ρ[i]? with
  | some (some (.lst _)) => (match f ρ with
    | .ok (d, ρ1) => (match ρ1[i]? with
      | some (some (.lst xs)) => if szOk (xs.length + 1) = true then .ok (.nx (ρ1.set i (some (.lst (xs ++ [d]))))) else .er
      | _ => .er)
    | _ => .er)
  | _ => .er
theorem Same.ref_eq {a b : Addr} {σ : L2.St} {i : Nat} (h : σ[i]? = some (some (V.ref a))) (k : σ[i]? = some (some (V.ref b))) : b = a := by
  rw [h] at k
  injection k with z; injection z with z; injection z with z
  exact z.symm
theorem ix_fits {n : Nat} {z : Int} {k : Nat} (h : ixN n z = some k) (hn : n ≤ sizeLine) : -(2 ^ 63) ≤ z ∧ z < 2 ^ 63 := by
  obtain ⟨_, _, h1, h2⟩ := ixN_seq h
  rw [sizeLine_eq] at hn
  omega
section
variable {X : Cx} {E : WX} {L : Lp} {m : Mds} {e : Expr} {f : Env → Res D} {fx : Env → Res (D × Env)} {x : Str} {pos p1 p2 p3 : Pos}
theorem jx_pop (i : Nat) (he : JE X EF m .sh e f) (hmd : IsOw (mdAt m i) := by first | exact .inl rfl | exact .inr ⟨_, rfl⟩) (hl : i < m.length := by first | decide | simp) (hN : X.N[i]? = some x := by rfl) (hv : Vis X.env.scope x := by first | exact Or.inl rfl | exact Or.inr (Or.inl rfl) | exact Or.inr (Or.inr rfl))
    (hd : (x == ("__debug__" : Str)) = false := by decide) (hcd : (x == ("__classdict__" : Str)) = false := by decide)
    (hpe : ∀ {to te : TE}, PE X (.Name x p1) to → PE X e te → PE X (.Call (.Attribute (.Name x p1) "pop" p2) [e] [] p3) (tBM X.K "list" rPopAt to (tCons te tNil)) := by
      intro to te ho he
      exact pe_bm PySem.F.plainAttrs_list PySem.F.slot_list_pop PySem.F.type_list_pop mt_popAt ho (pa_cons he pa_nil)) :
    JX X m (.Call (.Attribute (.Name x p1) "pop" p2) [e] [] p3) (fPop i f) := by
  refine ⟨⟨fun pins s σ H Q I h => (hpe (pe_var hN hv hd hcd) he.pe).run pins s σ H Q I ?_⟩⟩
  obtain ⟨S0, H0, S, Fp, ρ, st, p⟩ := h
  unfold fPop at p
  split at p
  · rename_i d ρ1 er
    split at er
    · rename_i xs exs
      obtain ⟨pa, vs, ds, eds, e1, e2, e3, e4, e5⟩ := st.own hmd exs
      cases eds
      refine ⟨_, e2, .inl ⟨rfl, vs, .inl (.inl e4)⟩, S, ρ, st.envM, ?_⟩
      split at er
      · rename_i z ez
        rw [ez]
        intro v S1 H1 fp s1 o _ _
        cases o.1
        split at er
        · rename_i k ek
          split at er
          · rename_i y ey
            split at er
            rotate_left
            · cases er
            rename_i hz0
            cases er
            obtain ⟨qa, ws, ds1, eds, q1, q2, q3, q4, q5⟩ := (st.step s1).own hmd exs
            cases eds
            obtain rfl := Same.ref_eq e2 q2
            obtain ⟨w, ew, rw'⟩ := q5.get ey
            obtain ⟨b1, b2⟩ := ix_fits ek (szOk_ok hz0)
            exact ⟨_, ws, z, k, w, rfl, rfl, q4, b1, b2, by rw [q5.len]; exact (ixN_seq ek).1, ew, p w S1 Fp _ s1.ss ((st.step s1).write hl hmd exs q1 q2 q3 q4 (q5.eraseIdx k)) rw'⟩
          · cases er
        · cases er
      · cases er
    · cases er
  · exact p.elim
theorem jx_pop0 (i : Nat) (hmd : IsOw (mdAt m i) := by first | exact .inl rfl | exact .inr ⟨_, rfl⟩) (hl : i < m.length := by first | decide | simp) (hN : X.N[i]? = some x := by rfl) (hv : Vis X.env.scope x := by first | exact Or.inl rfl | exact Or.inr (Or.inl rfl) | exact Or.inr (Or.inr rfl))
    (hd : (x == ("__debug__" : Str)) = false := by decide) (hcd : (x == ("__classdict__" : Str)) = false := by decide)
    (hpe : ∀ {to : TE}, PE X (.Name x p1) to → PE X (.Call (.Attribute (.Name x p1) "pop" p2) [] [] p3) (tBM0 X.K "list" rPop to) := by
      intro to ho
      exact pe_bm0 PySem.F.plainAttrs_list PySem.F.slot_list_pop PySem.F.type_list_pop mt_pop ho) :
    JX X m (.Call (.Attribute (.Name x p1) "pop" p2) [] [] p3) (fPop0 i) := by
  refine ⟨⟨fun pins s σ H Q I h => (hpe (pe_var hN hv hd hcd)).run pins s σ H Q I ?_⟩⟩
  obtain ⟨S0, H0, S, Fp, ρ, st, p⟩ := h
  unfold fPop0 at p
  split at p
  · rename_i d ρ1 er
    split at er
    · rename_i xs exs
      obtain ⟨pa, vs, ds, eds, e1, e2, e3, e4, e5⟩ := st.own hmd exs
      cases eds
      split at er
      · rename_i y ey
        cases er
        obtain ⟨w, ew, rw'⟩ := e5.get ey
        rw [← e5.len] at ew
        exact ⟨_, e2, .inl ⟨rfl, vs, .inl (.inl e4)⟩, _, vs, w, rfl, rfl, e4, ew, p w S Fp _ (Same.refl _) (st.write hl hmd exs e1 e2 e3 e4 e5.dropLast) rw'⟩
      · cases er
    · cases er
  · exact p.elim
theorem js_setX (i : Nat) {pos' : Pos} (he : JX X m e fx) (hN : X.N.Nodup) (hl : i < m.length := by first | decide | simp) (hi : X.N[i]? = some x := by rfl) (hx : Loc X.env.scope x := by first | exact Or.inl rfl | exact Or.inr rfl)
    (hs : swapsWith e (some (.Name x pos')) pos.line X.env = pure false := by rfl) (hf : X.fn x = true ∨ X.env.scope.names.lookup x = some .local := by first | exact .inl rfl | exact .inr rfl) :
    JS X E L m (m.set i .sh) (.Assign [.Name x pos'] e pos) (fSetX i fx) := by
  refine ⟨PSimp (ps_set hN hi hx he.pe hs hf) fun D σ H h => ?_⟩
  obtain ⟨S0, H0, ρ, ⟨S, Fp, st⟩, p⟩ := h
  unfold fSetX at p
  split at p
  · rename_i d ρ1 er
    refine ⟨S0, H0, S, Fp, ρ, st, ?_⟩
    try rw [er]
    intro v S1 F1 H1 _ st1 rd
    exact p _ _ (StF.stM (st1.set hl ⟨rd, rfl⟩ List.nodup_nil (fun a z => nomatch z) fun j e' hj ej a ha z => nomatch z))
  · exact p.elim
theorem js_appX (i : Nat) (he : JX X m e fx) (hmd : IsOw (mdAt m i) := by first | exact .inl rfl | exact .inr ⟨_, rfl⟩) (hl : i < m.length := by first | decide | simp) (hN : X.N[i]? = some x := by rfl) (hv : Vis X.env.scope x := by first | exact Or.inl rfl | exact Or.inr (Or.inl rfl) | exact Or.inr (Or.inr rfl))
    (hd : (x == ("__debug__" : Str)) = false := by decide) (hcd : (x == ("__classdict__" : Str)) = false := by decide)
    (hs : swapsWith (.Call (.Attribute (.Name x p1) "append" p2) [e] [] p3) none pos.line X.env = pure false := by rfl)
    (hpe : ∀ {to te : TE}, PE X (.Name x p1) to → PE X e te → PE X (.Call (.Attribute (.Name x p1) "append" p2) [e] [] p3) (tBM X.K "list" rAppend to (tCons te tNil)) := by
      intro to te ho he
      exact pe_bm PySem.F.plainAttrs_list PySem.F.slot_list_append PySem.F.type_list_append mt_append ho (pa_cons he pa_nil)) :
    JS X E L m m (.Expr (.Call (.Attribute (.Name x p1) "append" p2) [e] [] p3) pos) (fAppX i fx) := by
  refine ⟨PSimp (ps_expr (hpe (pe_var hN hv hd hcd) he.pe) hs) fun D σ H h => ?_⟩
  obtain ⟨S0, H0, ρ, ⟨S, Fp, st⟩, p⟩ := h
  unfold fAppX at p
  split at p
  · rename_i xs0 exs0
    obtain ⟨pa, vs, ds, eds, e1, e2, e3, e4, e5⟩ := st.own hmd exs0
    refine ⟨_, e2, .inl ⟨rfl, vs, .inl (.inl e4)⟩, S0, H0, S, Fp, ρ, st, ?_⟩
    split at p
    · rename_i d ρ1 er
      intro v S1 F1 H1 _ st1 rd
      split at p
      · rename_i xs exs
        split at p
        · rename_i hz
          obtain ⟨qa, ws, ds1, eds1, q1, q2, q3, q4, q5⟩ := st1.own hmd exs
          cases eds1
          obtain rfl := Same.ref_eq e2 q2
          exact ⟨_, ws, v, rfl, rfl, q4, by rw [q5.len]; exact szOk_lt hz, p _ _ (st1.write hl hmd exs q1 q2 q3 q4 (q5.snoc rd)).stM⟩
        · exact p.elim
      · exact p.elim
    · exact p.elim
  · exact p.elim
end
end Da
namespace Da
open PySem PySem.Spec L2
/-- whole numbers from naturals -/
def nat (i : Nat) : D := .int (i : Int)
theorem rng_zero {n : Nat} : rng 0 n = (List.range n).map nat := by
  unfold rng
  refine List.map_congr_left fun i _ => ?_
  rw [Int.zero_add]
  rfl
@[simp] theorem rng0_length {lo : Int} {n : Nat} : (rng lo n).length = n := rng_length
@[simp] theorem dList_lst {xs : List D} : dList (.lst xs) = .ok (.lst xs) := rfl
@[simp] theorem dList_tup {xs : List D} : dList (.tup xs) = .ok (.lst xs) := rfl
@[simp] theorem dTuple_lst {xs : List D} : dTuple (.lst xs) = .ok (.tup xs) := rfl
@[simp] theorem dTuple_tup {xs : List D} : dTuple (.tup xs) = .ok (.tup xs) := rfl
@[simp] theorem fTupleR1_ap {f : Env → Res D} {ρ : Env} {j : Int} (h : f ρ = .ok (.int j)) (h0 : 0 ≤ j) (h1 : j ≤ 1000000) : fTupleR1 f ρ = .ok (.tup ((List.range j.toNat).map nat)) := by
  unfold fTupleR1
  rw [h]
  show (if rgnOk 0 j = true then Res.ok (D.tup (rng 0 (j - 0).toNat)) else .er) = _
  rw [if_pos (show rgnOk 0 j = true from stuck_iff.mpr ⟨stuck_iff.mpr (by omega), by omega⟩), rng_zero, Int.sub_zero]
@[simp] theorem wipeD_one {ρ : Env} {i : Nat} : wipeD ρ [i] = ρ.set i none := rfl
@[simp] theorem fSc_int {f : Env → Res D} {ρ : Env} {j : Int} (h : f ρ = .ok (.int j)) : fSc f ρ = .ok (.int j) := by unfold fSc; rw [h]; rfl
@[simp] theorem fNx_ok {α : Type} {f : Env → Res α} {ρ : Env} {d : α} (h : f ρ = .ok d) : fNx f ρ = .ok d := by unfold fNx; rw [h]
theorem pys_ints : ∀ ns : List Int, D.pys (ns.map D.int) = some (ns.map PyData.int)
  | [] => rfl
  | n :: ns => by
    rw [List.map_cons, List.map_cons]
    unfold D.pys
    rw [pys_ints ns]
    rfl
theorem en_ints {ns : List Int} : (ns.map D.int).map D.en = ns.map PyData.int := by
  rw [List.map_map]
  rfl
theorem srt_ints (ns : List Int) : SrtOk (ns.map D.int) := by
  refine ⟨⟨_, pys_ints ns⟩, ?_, ?_, fun d hd => ?_⟩
  · rw [en_ints]
    exact PySem.W.AllAlike.of fun _ _ => by simp [PySem.W.alike]
  · rw [en_ints]
    exact PySem.W.Sortable.others fun _ => ⟨(fun z => nomatch z), (fun xs z => nomatch z)⟩
  · obtain ⟨n, _, rfl⟩ := List.mem_map.mp hd
    show PyData.depth (.int n) ≤ 20
    simp [PyData.depth]
def leI (x y : Int) : Bool := decide (x ≤ y)
theorem leD_int {x y : Int} : leD (.int x) (.int y) = leI x y := by
  have := congrFun (congrFun (PySem.W.dataLe_int (fun b : Int => b)) x) y
  exact this
theorem sort_ints (ns : List Int) : (ns.map D.int).mergeSort leD = (ns.mergeSort leI).map D.int := by
  exact (List.map_mergeSort (r := leI) (s := leD) (f := D.int) (l := ns) (fun a _ b _ => (leD_int).symm)).symm
theorem dSorted_lst {ns : List Int} : dSorted (.lst (ns.map D.int)) = .ok (.lst ((ns.mergeSort leI).map D.int)) := by
  show (if srtOk (ns.map D.int) = true then _ else _) = _
  rw [if_pos (show srtOk (ns.map D.int) = true from stuck_iff.mpr (srt_ints ns)), sort_ints]
/-- 0, 1, .. n - 1 -/
def upto (n : Nat) : List Int := (List.range n).map fun (i : Nat) => (i : Int)
theorem upto_length {n : Nat} : (upto n).length = n := by unfold upto; rw [List.length_map, List.length_range]
theorem mem_upto {n : Nat} {x : Int} : x ∈ upto n ↔ 0 ≤ x ∧ x < n := by
  unfold upto
  rw [List.mem_map]
  constructor
  · rintro ⟨i, hi, rfl⟩
    have := List.mem_range.mp hi
    omega
  · intro h
    exact ⟨x.toNat, List.mem_range.mpr (by omega), by omega⟩
theorem upto_nodup {n : Nat} : (upto n).Nodup := by
  unfold upto
  rw [List.Nodup, List.pairwise_map]
  exact List.pairwise_lt_range.imp fun h z => by omega
end Da
namespace Da
open PySem PySem.Spec L2
end Da
namespace Da
open PySem PySem.Spec L2
section
variable {X : Cx} {E : WX} {L : Lp} {m : Mds} {ts : List Nat} {N0 ps0 : List Str} {sc0 : Scope} {kx vx tg iter e : Expr} {ifs : List Expr} {scope : Scope} {own : List (Str × Nat)} {pos p p1 p2 p3 tpos : Pos} {it : Env → Res (List D)} {g : D → Env → Res Env} {c : Env → Res Bool} {fk fv fa fb : Env → Res D} {a b : Expr} {es elts : List Expr} {kk k : Nat} {fs : Env → Res (List D)}
def dGcd : D → D → Res D
  | .int i, .int j => .ok (.int ((Nat.gcd i.natAbs j.natAbs : Nat) : Int))
  | _, _ => .er
theorem je_gcd (hm : X.mg "gcd" = some (.builtin "math.gcd")) (ha : JA X E m [a, b] fs) (hg : Gl X "gcd" := by rfl) (he : starEach [a, b] X.env = (false, eval a X.env) :: starEach [b] X.env := by rfl) (hpl : (backTo pos (starEach [b] X.env)).any (·.1) = false := by rfl) : JE X E m .sh (.Call (.Name "gcd" p) [a, b] [] pos) (fOn (on2 dGcd) fs) :=
  ⟨PEimp (pe_callBfun cr_gcd hg hm ha.pa (by decide) he hpl) fun σ H Q h => call1 (calld2 fun E S H x y d e Q hs rx ry hp => by
    cases d with
    | int i =>
      cases e with
      | int j =>
        cases rx; cases ry
        exact ⟨i, j, rfl, Post.val hp hs (.int _)⟩
      | _ => exact hp.elim
    | _ => exact hp.elim) h⟩
end
end Da
namespace Da
open PySem PySem.Spec L2
def lookF : List Str → List D → Str → Option D
  | n :: ns, d :: ds, f => if n = f then some d else lookF ns ds f
  | _, _, _ => none
def dFld (c f : Str) : D → Res D
  | .obj c' ns ds => if c' = c then (match lookF ns ds f with
    | some d => .ok d
    | none => .er) else .er
  | _ => .er
/-- the class c has nothing called f: its instances' own f is read and stored -/
def FldAt (K : PySem.W.Frag) (mg : Str → Option Value) (c f : Str) : Prop := ∀ C, mg c = some (.ref C) → Cls K C ∧ NoAttr K C f
section
variable {K : PySem.W.Frag} {mg : Str → Option Value} {S H : Hp}
theorem Rep.of_obj {v : V} {c : Str} {ns : List Str} {ds : List D} (h : Rep K mg S v (.obj c ns ds)) : ∃ a C dx fs, v = .ref a ∧ S a = some (.ins C dx fs) ∧ mg c = some (.ref C) ∧ ns = fs.map (·.1) ∧ RepL K mg S (fs.map (·.2)) ds := by
  cases h with
  | obj h hm hl hi =>
    refine ⟨_, _, _, _, rfl, h, hm, rfl, by rw [List.length_map]; exact hl, fun i v d a b => ?_⟩
    rw [List.getElem?_map] at a
    cases e : (_ : List (Str × V))[i]? with
    | none => rw [e] at a; cases a
    | some p => rw [e] at a; cases a; exact hi i p d e b
theorem lookF_ok : ∀ {fs : List (Str × V)} {ds : List D} {f : Str}, RepL K mg S (fs.map (·.2)) ds → (lookF (fs.map (·.1)) ds f = none ∧ fs.lookup f = none) ∨ ∃ d v, lookF (fs.map (·.1)) ds f = some d ∧ fs.lookup f = some v ∧ Rep K mg S v d
  | [], ds, f, r => .inl ⟨by cases ds <;> rfl, rfl⟩
  | p :: fs, [], f, r => by have := r.len; simp at this
  | p :: fs, d :: ds, f, r => by
    rw [List.map_cons] at r
    by_cases e : p.1 = f
    · refine .inr ⟨d, p.2, ?_, ?_, r.head⟩
      · show (if p.1 = f then some d else _) = _
        rw [if_pos e]
      · obtain ⟨n, v⟩ := p
        rw [List.lookup_cons, show (f == n) = true from by simp [show n = f from e]]
    · have ih := lookF_ok (f := f) r.tail
      have q : lookF ((p :: fs).map (·.1)) (d :: ds) f = lookF (fs.map (·.1)) ds f := by
        show (if p.1 = f then some d else _) = _
        rw [if_neg e]
      have q2 : (p :: fs).lookup f = fs.lookup f := by
        obtain ⟨n, v⟩ := p
        rw [List.lookup_cons, show (f == n) = false from by simp; exact fun z => e z.symm]
      rw [q, q2]
      exact ih
/-- a field stored, its place kept or at the end -/
def putN (f : Str) : List Str → List Str
  | [] => [f]
  | g :: r => if g = f then g :: r else g :: putN f r
def putD (f : Str) (d : D) : List Str → List D → List D
  | g :: ns, x :: ds => if g = f then d :: ds else x :: putD f d ns ds
  | _, ds => ds ++ [d]
theorem putF_ok {f : Str} {v : V} {d : D} (h : Rep K mg S v d) : ∀ {fs : List (Str × V)} {ds : List D}, RepL K mg S (fs.map (·.2)) ds → (putF f v fs).map (·.1) = putN f (fs.map (·.1)) ∧ RepL K mg S ((putF f v fs).map (·.2)) (putD f d (fs.map (·.1)) ds)
  | [], ds, r => by
    have : ds = [] := r.nil_iff.mp rfl
    subst this
    exact ⟨rfl, .cons h .nil⟩
  | p :: fs, [], r => by have := r.len; simp at this
  | (g, x) :: fs, y :: ds, r => by
    rw [List.map_cons] at r
    obtain ⟨i1, i2⟩ := putF_ok h r.tail
    by_cases e : g = f
    · refine ⟨?_, ?_⟩
      · show ((if g = f then (g, v) :: fs else (g, x) :: putF f v fs).map (·.1)) = (if g = f then g :: fs.map (·.1) else g :: putN f (fs.map (·.1)))
        rw [if_pos e, if_pos e]
        rfl
      · show RepL K mg S ((if g = f then (g, v) :: fs else (g, x) :: putF f v fs).map (·.2)) (if g = f then d :: ds else y :: putD f d (fs.map (·.1)) ds)
        rw [if_pos e, if_pos e]
        exact .cons h r.tail
    · refine ⟨?_, ?_⟩
      · show ((if g = f then (g, v) :: fs else (g, x) :: putF f v fs).map (·.1)) = (if g = f then g :: fs.map (·.1) else g :: putN f (fs.map (·.1)))
        rw [if_neg e, if_neg e, List.map_cons, i1]
      · show RepL K mg S ((if g = f then (g, v) :: fs else (g, x) :: putF f v fs).map (·.2)) (if g = f then d :: ds else y :: putD f d (fs.map (·.1)) ds)
        rw [if_neg e, if_neg e, List.map_cons]
        exact .cons r.head i2
end
section
variable {X : Cx} {E : WX} {L : Lp} {m : Mds} {a e : Expr} {fa f : Env → Res D} {pos p1 p2 : Pos} {c x : Str} {fn : Str}
theorem je_fld (c : Str) (F : FldAt X.K X.mg c fn) (ha : JE X E m .sh a fa) (hb : attributeBase a fn X.env (eval a X.env) = eval a X.env := by rfl) : JE X E m .sh (.Attribute a fn pos) (f1 (dFld c fn) fa) := by
  refine ⟨PEimp (pe_fld ha.pe hb) fun σ H Q h => ?_⟩
  obtain ⟨S, ρ, hm, hp⟩ := h
  refine ⟨S, ρ, hm, (Post.bind hp).post fun d v S1 H1 s1 r k => ?_⟩
  cases d with
  | obj c' ns ds =>
    have k2 : Post X.K X.mg (WE E σ) S1 H1 .sh (if c' = c then (match lookF ns ds fn with
      | some d => .ok d
      | none => .er) else .er) Q := k
    by_cases ec : c' = c
    · rw [if_pos ec] at k2
      subst ec
      obtain ⟨q, C, dx, fs, rfl, hq, hC, rfl, rv⟩ := r.of_obj
      obtain ⟨cl, na⟩ := F C hC
      rcases lookF_ok (f := fn) rv with ⟨e1, _⟩ | ⟨d, w, e1, e2, rw'⟩
      · rw [e1] at k2; exact k2.elim
      · rw [e1] at k2
        exact ⟨q, C, dx, fs, w, rfl, s1.sub _ _ hq, cl, na, e2, Post.val k2 s1.sub rw'⟩
    · rw [if_neg ec] at k2
      exact k2.elim
  | _ => exact k.elim
/-- .. of the object under way in slot i -/
theorem je_fldO (c : Str) (i : Nat) (F : FldAt X.K X.mg c fn) {q : Addr} (hmd : mdAt m i = .ob q := by rfl) (hN : X.N[i]? = some x := by rfl) (hv : Vis X.env.scope x := by first | exact Or.inl rfl | exact Or.inr (Or.inl rfl) | exact Or.inr (Or.inr rfl))
    (hd : (x == ("__debug__" : Str)) = false := by decide) (hcd : (x == ("__classdict__" : Str)) = false := by decide) (hb : attributeBase (.Name x p1) fn X.env (eval (.Name x p1) X.env) = eval (.Name x p1) X.env := by rfl) : JE X E m .sh (.Attribute (.Name x p1) fn pos) (f1 (dFld c fn) (fV i)) := by
  refine ⟨PEimp (pe_fld (pe_var hN hv hd hcd) hb) fun σ H Q h => ?_⟩
  obtain ⟨S, ρ, ⟨hs, Fp, en⟩, hp⟩ := h
  unfold f1 fV at hp
  split at hp
  · rename_i d ed
    obtain ⟨v, e1, o⟩ := en.at_ i d ed
    rw [hmd] at o
    obtain ⟨dx, C, c', fs, ds, rfl, rfl, _, _, _, hC, hq, _, rv⟩ := o
    have k2 : Post X.K X.mg (WE E σ) S H .sh (if c' = c then (match lookF (fs.map (·.1)) ds fn with
      | some d => .ok d
      | none => .er) else .er) Q := hp
    by_cases ec : c' = c
    · rw [if_pos ec] at k2
      subst ec
      obtain ⟨cl, na⟩ := F C hC
      rcases lookF_ok (f := fn) rv with ⟨e2, _⟩ | ⟨d, w, e2, e3, rw'⟩
      · rw [e2] at k2; exact k2.elim
      · rw [e2] at k2
        exact ⟨_, e1, q, C, dx, fs, w, rfl, hq, cl, na, e3, Post.val k2 hs rw'⟩
    · rw [if_neg ec] at k2
      exact k2.elim
  · exact hp.elim
/-- self.f = e -/
def fFld (c fn : Str) (i : Nat) (f : Env → Res D) : FS := fun ρ => match ρ[i]? with
  | some (some (.obj c' ns ds)) => if c' = c ∧ ns.length < 100 then lift (f ρ) ρ fun d => .ok (.nx (ρ.set i (some (.obj c' (putN fn ns) (putD fn d ns ds))))) else .er
  | _ => .er
/-- the object of slot i is written -/
theorem StF.writeO {K : PySem.W.Frag} {mg : Str → Option Value} {S0 H0 S H : Hp} {Fp : Nat → List Addr} {σ : L2.St} {ρ : Env} {i : Nat} {d0 : D} {p dx C : Addr} {c : Str} {gs : List (Str × V)} {ys : List D} (st : StF K mg m S0 H0 S Fp σ ρ H) (hmd : mdAt m i = .ob p) (hρ : ρ[i]? = some (some d0))
    (hp : Fp i = [p, dx]) (hσ : σ[i]? = some (some (.ref p))) (sp : S p = none) (sd : S dx = none) (hC : mg c = some (.ref C)) (hdx : H dx = some (.own p)) (r : RepL K mg S (gs.map (·.2)) ys) : StF K mg m S0 H0 S Fp σ (ρ.set i (some (.obj c (gs.map (·.1)) ys))) (upd H p (.ins C dx gs)) := by
  obtain ⟨s, e, nw⟩ := st
  have hil : i < ρ.length := (List.getElem?_eq_some_iff.mp hρ).1
  have h0 : H0 p = none := nw i _ hρ p (by rw [hp]; exact List.mem_cons_self)
  have hne : dx ≠ p := fun z => by
    have := e.nd i _ hρ
    rw [hp, z] at this
    simp at this
  have key : ∀ j d', (ρ.set i (some (.obj c (gs.map (·.1)) ys)))[j]? = some (some d') → (j = i ∧ d' = .obj c (gs.map (·.1)) ys) ∨ (j ≠ i ∧ ρ[j]? = some (some d')) := fun j d' ej => by
    by_cases hj : j = i
    · subst hj
      rw [List.getElem?_set_self hil] at ej
      injection ej with z; injection z with z
      exact .inl ⟨rfl, z.symm⟩
    · rw [List.getElem?_set_ne (Ne.symm hj)] at ej
      exact .inr ⟨hj, ej⟩
  have same : ∀ {B : Hp}, Same B H → B p = none → Same B (upd H p (.ins C dx gs)) := fun hB hb a o ea => by
    rw [upd_ne (ne_of_none ea hb)]
    exact hB a o ea
  refine ⟨⟨same s.hh h0, s.ss, same s.sub sp, s.new⟩, ⟨by rw [List.length_set]; exact e.len, fun j d' ej => ?_, fun j d' ej => ?_, fun j k d1 d2 hjk e1 e2 => ?_⟩, fun j d' ej => ?_⟩
  · rcases key j d' ej with ⟨rfl, rfl⟩ | ⟨hj, ej'⟩
    · refine ⟨_, hσ, ?_⟩
      rw [hmd]
      exact ⟨dx, C, c, gs, ys, rfl, rfl, hp, sp, sd, hC, upd_same, by rw [upd_ne hne]; exact hdx, r⟩
    · obtain ⟨w, e1, o1⟩ := e.at_ j d' ej'
      exact ⟨w, e1, o1.other sp fun z => e.apart i j _ d' (Ne.symm hj) hρ ej' p (by rw [hp]; exact List.mem_cons_self) z⟩
  · rcases key j d' ej with ⟨rfl, rfl⟩ | ⟨hj, ej'⟩
    · exact e.nd _ _ hρ
    · exact e.nd j d' ej'
  · have live : ∀ j d', (ρ.set i (some (.obj c (gs.map (·.1)) ys)))[j]? = some (some d') → ∃ d'', ρ[j]? = some (some d'') := fun j d' ej => by
      rcases key j d' ej with ⟨rfl, _⟩ | ⟨_, ej'⟩
      · exact ⟨_, hρ⟩
      · exact ⟨_, ej'⟩
    obtain ⟨d1', h1⟩ := live j d1 e1
    obtain ⟨d2', h2⟩ := live k d2 e2
    exact e.apart j k d1' d2' hjk h1 h2
  · rcases key j d' ej with ⟨rfl, rfl⟩ | ⟨hj, ej'⟩
    · exact nw _ _ hρ
    · exact nw j d' ej'
theorem js_fld (c : Str) (i : Nat) (F : FldAt X.K X.mg c fn) (he : JE X E m .sh e f) {q : Addr} (hmd : mdAt m i = .ob q := by rfl) (hN : X.N[i]? = some x := by rfl) (hv : Vis X.env.scope x := by first | exact Or.inl rfl | exact Or.inr (Or.inl rfl) | exact Or.inr (Or.inr rfl))
    (hd : (x == ("__debug__" : Str)) = false := by decide) (hcd : (x == ("__classdict__" : Str)) = false := by decide) (hs : swapsWith e (some (.Attribute (.Name x p1) fn p2)) pos.line X.env = pure false := by rfl) :
    JS X E L m m (.Assign [.Attribute (.Name x p1) fn p2] e pos) (fFld c fn i f) := by
  refine ⟨PSimp (ps_fld (pe_var hN hv hd hcd) he.pe hs) fun D σ H h => ?_⟩
  obtain ⟨S0, H0, ρ, ⟨S, Fp, st⟩, p⟩ := h
  unfold fFld at p
  split at p
  · rename_i c' ns ds exs
    by_cases hc : c' = c ∧ ns.length < 100
    · rw [if_pos hc] at p
      obtain ⟨rfl, hl⟩ := hc
      refine ⟨S, ρ, st.envM, (lift_post st p).post fun d v S1 H1 s1 r k => ?_⟩
      have st1 := st.step s1
      obtain ⟨w, e1, o⟩ := st1.2.1.at_ i _ exs
      rw [hmd] at o
      obtain ⟨dx, C, c2, gs, ys, rfl, ed, e3, e4, e5, e6, e7, e8, e9⟩ := o
      cases ed
      obtain ⟨cl, na⟩ := F C e6
      obtain ⟨k1, k2⟩ := putF_ok (f := fn) r e9
      refine ⟨_, e1, q, C, dx, gs, rfl, e7, cl, na, by rw [List.length_map] at hl; omega, ?_⟩
      have w := st1.writeO (gs := putF fn v gs) (ys := putD fn d (gs.map (·.1)) ds) hmd exs e3 e1 e4 e5 e6 e8 k2
      rw [k1] at w
      exact k σ _ w.stM
    · rw [if_neg hc] at p
      exact p.elim
  · exact p.elim
end
end Da
namespace Da
open PySem PySem.Spec L2
/-- what an __init__ promises: the new object at p, told by f of the arguments -/
def spI (K : PySem.W.Frag) (mg : Str → Option Value) (np : Nat) (c : Str) (f : List D → Res D) : Sp := fun vs H Q E => ∃ (S : Hp) (p dx C : Addr) (us : List V) (ds : List D), vs = .ref p :: us ∧ Same S H ∧ S p = none ∧ S dx = none ∧ dx ≠ p ∧ mg c = some (.ref C) ∧ H p = some (.ins C dx []) ∧ H dx = some (.own p) ∧ RepL K mg S us ds ∧ ds.length = np ∧
  (match f ds with
  | .ok d => ∀ S' H' fp, Step S (fun a => if a = p ∨ a = dx then none else H a) S' H' → OwnAt K mg S' H' fp (.ref p) d (.ob p) → fp.Nodup → (∀ a, a ∈ fp → a = p ∨ a = dx ∨ H a = none) → Q .non H'
  | .ex c fs => ∀ S' H' cls dd, Step S (fun a => if a = p ∨ a = dx then none else H a) S' H' → ExcAt K mg S' H' cls dd c fs → E cls dd H'
  | .er => False)
/-- the run of an __init__ -/
def runI (n : Nat) (c : Str) (F : FS) (ds : List D) : Res D := match F (some (.obj c [] []) :: (ds.map some ++ List.replicate (n - 1 - ds.length) none)) with
  | .ok (.nx ρ) => (match ρ[0]? with
    | some (some d) => .ok d
    | _ => .er)
  | .ok (.xc c fs _) => .ex c fs
  | _ => .er
section
variable {P : Program} {w : World} {K : PySem.W.Frag} {mg : Str → Option Value} {base : Heap}
theorem fn_okI {x qual c : Str} {st : Stmt} {f : Addr} {fd : FuncData} {N ps : List Str} {k np : Nat} {F : FS} (Fn : Fun K x qual st f fd) (Sc : FnScope N ps (defScope st)) (hnp : ps.length ≤ N.length) (hps : ps.length = np + 1)
    (h : ∀ (p : Addr) (cdv : Value) (A : Around) (outer : List PySem.Env) (s : Shared) (H : Hp) (E : XK), Room k (A.deeper (PyProof.Rows.envOfC qual (defScope st) s.heap.objs.size f cdv)) →
      JSs (cxOf (L2.CX P w) P w K mg base N qual (defScope st) f cdv A outer s H E) (fun cls d _ H => E cls d H) ⟨[], [], .dt⟩ (.ob p :: msh (N.length - 1)) (.ob p :: msh (N.length - 1)) (defBody st) F) :
    FnOk P w K mg base (L2.CX P w) (k + 1) f fd ps (spI K mg np c (runI N.length c F)) := by
  refine Fn.okX Sc (fun vs H Q E hsp => ?_) (fun cdv A outer s H vs Q E hr hsp => ?_)
  · obtain ⟨S, p, dx, C, us, ds, rfl, _, _, _, _, _, _, _, rv, hl, _⟩ := hsp
    rw [List.length_cons, rv.len, hl, hps]
  · obtain ⟨S, p, dx, C, us, ds, rfl, hs, sp, sd, hne, hC, hp, hd, rv, hl, hq⟩ := hsp
    have hN : N.length = np + 1 + (N.length - 1 - np) := by omega
    let H0 : Hp := fun a => if a = p ∨ a = dx then none else H a
    have h0 : ∀ a, (a = p ∨ a = dx) → H0 a = none := fun a z => if_pos z
    have h0H : Same H0 H := fun a o e => by
      have e : (if a = p ∨ a = dx then none else H a) = some o := e
      split at e
      · cases e
      · exact e
    have ml : ∀ j, j ≠ 0 → mdAt (.ob p :: msh (N.length - 1)) j = .sh := fun j hj => by
      obtain ⟨i, rfl⟩ : ∃ i, j = i + 1 := ⟨j - 1, by omega⟩
      show mdAt (msh _) i = .sh
      exact mdAt_msh
    let Fp : Nat → List Addr := fun i => if i = 0 then [p, dx] else []
    refine ⟨_, (h p cdv A outer s H E hr).ps, S, H0, some (.obj c [] []) :: (ds.map some ++ List.replicate (N.length - 1 - ds.length) none), ⟨S, Fp, ⟨h0H, Same.refl _, hs, fun _ z => .inl z⟩, ⟨?_, fun i d e => ?_, fun i d e => ?_, fun i j d e hij e1 e2 a ha => ?_⟩, fun i d e a ha => ?_⟩, ?_⟩
    · unfold L2.start
      rw [List.length_append, List.length_cons, List.length_append, List.length_map, List.length_map, List.length_replicate, List.length_replicate, List.length_cons, rv.len]
      omega
    · cases i with
      | zero =>
        rw [List.getElem?_cons_zero] at e
        have e : D.obj c [] [] = d := by injection e with e; injection e
        subst e
        refine ⟨.ref p, ?_, ?_⟩
        · unfold L2.start
          rfl
        · exact ⟨dx, C, c, [], [], rfl, rfl, rfl, sp, sd, hC, hp, hd, .nil⟩
      | succ i =>
        rw [List.getElem?_cons_succ] at e
        by_cases hi : i < ds.length
        · rw [List.getElem?_append_left (by rw [List.length_map]; exact hi), List.getElem?_map, List.getElem?_eq_getElem hi] at e
          have e' : ds[i] = d := by injection e with e; injection e
          obtain ⟨v, ev, r⟩ := rv.get (List.getElem?_eq_getElem hi)
          refine ⟨v, ?_, ?_⟩
          · unfold L2.start
            rw [List.map_cons, List.cons_append, List.getElem?_cons_succ, List.getElem?_append_left (by rw [List.length_map, rv.len]; exact hi), List.getElem?_map, ev]
            rfl
          · rw [ml _ (by omega), ← e']
            exact ⟨r, rfl⟩
        · rw [List.getElem?_append_right (by rw [List.length_map]; omega), List.getElem?_replicate] at e
          split at e <;> cases e
    · cases i with
      | zero =>
        show [p, dx].Nodup
        simp
        exact fun z => hne z.symm
      | succ i => exact List.nodup_nil
    · cases i with
      | zero =>
        cases j with
        | zero => exact absurd rfl hij
        | succ j => exact fun z => nomatch z
      | succ i => cases ha
    · cases i with
      | zero =>
        have : a = p ∨ a = dx := by simpa [Fp] using ha
        exact h0 a this
      | succ i => cases ha
    · unfold runI at hq
      cases ef : F (some (.obj c [] []) :: (ds.map some ++ List.replicate (N.length - 1 - ds.length) none)) with
      | ok o =>
        rw [ef] at hq
        cases o with
        | nx ρ =>
          intro σ' H' ⟨S', F', st'⟩
          simp only at hq
          cases e0 : ρ[0]? with
          | none => rw [e0] at hq; exact hq.elim
          | some d0 =>
            cases d0 with
            | none => rw [e0] at hq; exact hq.elim
            | some d =>
              rw [e0] at hq
              obtain ⟨v, _, o⟩ := st'.2.1.at_ 0 d e0
              have o : OwnAt K mg S' H' (F' 0) v d (.ob p) := o
              have ev : v = .ref p := by
                obtain ⟨_, _, _, _, _, e, _⟩ := o
                exact e
              subst ev
              refine hq S' H' (F' 0) st'.1 o (st'.2.1.nd 0 d e0) fun a ha => ?_
              have := st'.2.2 0 d e0 a ha
              by_cases z : a = p ∨ a = dx
              · rcases z with z | z
                · exact .inl z
                · exact .inr (.inl z)
              · have this : (if a = p ∨ a = dx then none else H a) = none := this
                rw [if_neg z] at this
                exact .inr (.inr this)
        | rt d => exact hq.elim
        | bk ρ => exact hq.elim
        | ct ρ => exact hq.elim
        | xc c fs ρ => exact fun σ' S' F' H' cls dd st' x' => hq S' H' cls dd st'.1 x'
      | ex c fs => rw [ef] at hq; exact hq.elim
      | er => rw [ef] at hq; exact hq.elim
end
section
variable {X : Cx} {E : WX} {m : Mds} {e o : Expr} {es : List Expr} {fs : Env → Res (List D)} {p pos apos : Pos} {c mn : Str} {k np : Nat} {f C : Addr} {fd : FuncData} {ps : List Str} {g : List D → Res D} {fa : Env → Res D}
/-- the class of this name makes its objects by g -/
def KeepsI (P : Program) (w : World) (K : PySem.W.Frag) (mg : Str → Option Value) (base : Heap) (c : Str) (k : Nat) (ps : List Str) (np : Nat) (g : List D → Res D) : Prop :=
  ∃ C f fd, mg c = some (.ref C) ∧ Mk K C f ∧ Binds K fd ps [] ∧ FnOk P w K mg base (L2.CX P w) k f fd ps (spI K mg np c g)
theorem make_run {E : XK} {sp : Sp} {pins : List (Addr × Obj)} {σ : L2.St} {H : Hp} {s : Shared} {Q : VK} {us : List Value} {vs : List V} (M : Mk X.K C f) (F : FnOk X.prog X.w X.K X.mg X.base (L2.CX X.prog X.w) k f fd ps sp) (hr : Room (k + 1) X.A) (hb : Binds X.K fd ps []) (hx : PassesAt (L2.CX X.prog X.w) X σ E) (I : Inv X pins σ H s) (rv : Vals vs us)
    (h : ∀ x dx, H x = none → H dx = none → dx ≠ x → sp (.ref x :: vs) (upd (upd H dx (.own x)) x (.ins C dx [])) (fun v H2 => v = .non ∧ Q (.ref x) H2) E) : wpAny (model X.prog X.w) X.A (call (.ref C) us) (EP X pins σ Q) X.xe s := by
  have n1 := I.hok.fresh (Nat.le_succ s.heap.objs.size)
  have n2 := I.hok.fresh (Nat.le_refl s.heap.objs.size)
  have hq := h (s.heap.objs.size + 1) s.heap.objs.size n1 n2 (Nat.ne_of_lt (Nat.lt_succ_self _))
  have J := Inv.made (C := C) I
  have rr : Vals (V.ref (s.heap.objs.size + 1) :: vs) (Value.ref (s.heap.objs.size + 1) :: us) := .cons rfl rv
  have hl : (Value.ref (s.heap.objs.size + 1) :: us).length = ps.length := rr.length.symm.trans (F.len _ _ _ _ hq)
  have bnd := hb _ (Value.ref (s.heap.objs.size + 1) :: us) J.kIn (by rw [List.append_nil]; exact hl)
  rw [List.append_nil] at bnd
  refine wpAny_call (make_map (f := f) I.kIn M.makes M.init (beq_iff_eq.mp M.fn) (codeAny_mono (F.run _ X.stack _ _ ⟨Value.ref (s.heap.objs.size + 1) :: us, []⟩ _ _ _ E (hr.make C us []) (J.env0.make C us []) bnd rr hq) fun fin s' hf => ?_))
  cases fin with
  | error u => exact hx pins _ _ u s' J hf
  | ok fl =>
    cases fl with
    | ret u =>
      obtain ⟨v, H', I3, ru, ev, q3⟩ := J.after hf
      subst ev
      exact ⟨ru, V.ref (s.heap.objs.size + 1), H', I3, rfl, q3⟩
    | _ => exact hf.elim
theorem je_make (G : KeepsI X.prog X.w X.K X.mg X.base c k ps np g) (hr : Room (k + 1) X.A) (tk : Takes X E) (ha : JA X E m (e :: es) fs) (hg : Gl X c := by rfl) (hdb : (c == ("__debug__" : Str)) = false := by decide)
    (he : starEach (e :: es) X.env = (false, eval e X.env) :: starEach es X.env := by rfl) (hpl : (backTo pos (starEach es X.env)).any (·.1) = false := by rfl) : JE X E m .sh (.Call (.Name c p) (e :: es) [] pos) (fOn (chk np g) fs) := by
  obtain ⟨C, f, fd, hC, M, hb, F⟩ := G
  refine ⟨⟨fun pins s σ H Q I h => ?_⟩⟩
  obtain ⟨S, ρ, hm, hp⟩ := h
  refine wpAny_Call_Name_kw (ld_glob I hg hC ?_ hdb)
  refine PySem.W.callWith_K (h₀ := X.base) I.ok.mod.kin M.kp (thn (ha.pa.run pos pins s σ H _ I ⟨S, ρ, hm, (Post.bind hp).imp fun ds S1 H1 s1 k1 => ?_⟩) fun us s1 ⟨vs, H1, I1, r, q⟩ => ⟨I1.kIn, make_run (E := WE E σ) (sp := spI X.K X.mg np c g) M F hr hb (passAt tk σ) I1 r q⟩) he hpl
  intro vs rs x dx hx hdx hne
  obtain ⟨hl, k1⟩ := k1.chkd
  have sx : S1 x = none := s1.sub.free hx
  have sd : S1 dx = none := s1.sub.free hdx
  have same : ∀ {B : Hp}, Same B H1 → Same B (upd (upd H1 dx (.own x)) x (.ins C dx [])) := fun hB a o ea => by
    have ea' := hB a o ea
    rw [upd_ne (ne_of_none ea' hx), upd_ne (ne_of_none ea' hdx)]
    exact ea'
  refine ⟨S1, x, dx, C, vs, ds, rfl, same s1.sub, sx, sd, hne, hC, upd_same, by rw [upd_ne hne, upd_same], rs, hl, ?_⟩
  have back : ∀ {S' H' : Hp}, Step S1 (fun a => if a = x ∨ a = dx then none else upd (upd H1 dx (.own x)) x (.ins C dx []) a) S' H' → Step S1 H1 S' H' := fun {S' H'} st => by
    refine ⟨fun a o ea => st.hh a o ?_, st.ss, st.sub, fun a ha => ?_⟩
    · show (if a = x ∨ a = dx then none else upd (upd H1 dx (.own x)) x (.ins C dx []) a) = some o
      have na : ¬ (a = x ∨ a = dx) := fun z => by
        rcases z with z | z
        · rw [z, hx] at ea; cases ea
        · rw [z, hdx] at ea; cases ea
      rw [if_neg na]
      exact same (Same.refl H1) a o ea
    · rcases st.new a ha with z | z
      · exact .inl z
      · have z : (if a = x ∨ a = dx then none else upd (upd H1 dx (.own x)) x (.ins C dx []) a) = none := z
        by_cases na : a = x ∨ a = dx
        · rcases na with rfl | rfl
          · exact .inr hx
          · exact .inr hdx
        · rw [if_neg na] at z
          refine .inr ?_
          rw [upd_ne (fun y => na (.inl y)), upd_ne (fun y => na (.inr y))] at z
          exact z
  cases eg : g ds with
  | ok d =>
    rw [eg] at k1
    intro S' H' fp st o hn hf
    refine ⟨rfl, ?_⟩
    -- the object is shared from here on
    have st' := back st
    let A : Addr → Prop := fun a => a ∈ fp
    have ho : ∀ a, A a → S' a = none := fun a ha => (o.out ha).1
    refine k1 (.ref x) (take S' H' A) H' [] ⟨st'.hh, st'.ss.trans (take_same st'.sub ho), take_sub st'.sub, fun a y => ?_⟩ ⟨o.shared st'.sub ho fun a ha => ha, rfl⟩ List.nodup_nil (fun a z => nomatch z)
    by_cases z : A a
    · rcases hf a z with q | q | q
      · rw [q]; exact .inr hx
      · rw [q]; exact .inr hdx
      · refine .inr ?_
        cases e1 : H1 a with
        | none => rfl
        | some u => rw [same (Same.refl H1) a u e1] at q; cases q
    · rw [take_out z] at y
      exact st'.new a y
  | ex c' fs' =>
    rw [eg] at k1
    exact fun S' H' cls dd st x' => k1 S' H' cls dd (back st) x'
  | er => rw [eg] at k1; exact k1.elim
end
end Da
namespace Da
open PySem PySem.Spec L2
/-- the j-th statement of a class -/
def inCls (s : Stmt) (j : Nat) : Stmt := match s with
  | .ClassDef _ _ _ body _ _ _ _ _ _ _ => body.getD j (.Pass ⟨0, 0, 0, 0⟩)
  | _ => .Pass ⟨0, 0, 0, 0⟩
def InitAt (K : PySem.W.Frag) (mg : Str → Option Value) (c qual : Str) (st : Stmt) (ps : List Str) : Prop := ∃ C f fd, mg c = some (.ref C) ∧ Mk K C f ∧ Fun K "__init__" qual st f fd ∧ Binds K fd ps []
section
variable {P : Program} {w : World} {K : PySem.W.Frag} {mg : Str → Option Value} {base h : Heap} {c mn qual : Str} {st : Stmt} {ps N : List Str} {k np : Nat} {md : Md} {F : FS} {f C : Addr} {oc : Value} {od an : Option Addr} {osl : Array (Option Value)} {kV doc pm cdv ct : Value}
theorem keepsI_of (dA : InitAt K mg c qual st ps) (Sc : FnScope N ps (defScope st)) (hnp : ps.length ≤ N.length) (hps : ps.length = np + 1)
    (h : ∀ (f p : Addr) (cdv : Value) (A : Around) (outer : List PySem.Env) (s : Shared) (H : Hp) (E : XK), Room k (A.deeper (PyProof.Rows.envOfC qual (defScope st) s.heap.objs.size f cdv)) →
      JSs (cxOf (L2.CX P w) P w K mg base N qual (defScope st) f cdv A outer s H E) (fun cls d _ H => E cls d H) ⟨[], [], .dt⟩ (.ob p :: msh (N.length - 1)) (.ob p :: msh (N.length - 1)) (defBody st) F) : KeepsI P w K mg base c (k + 1) ps np (runI N.length c F) := by
  obtain ⟨C, f, fd, hC, M, Fn, bd⟩ := dA
  exact ⟨C, f, fd, hC, M, bd, fn_okI Fn Sc hnp hps (h f)⟩
theorem cls_mk (pg : PySem.W.plainGet K C Str.empty = true) (hd : PySem.W.hasDictIn K C = true) (po : PySem.W.plainOver K C = true) (sa : PySem.W.findIn K (.ref C) "__setattr__" = some (some (.builtin "object.__setattr__"))) : Cls K C := ⟨pg, hd, po, sa⟩
theorem fldAt_mk {fn : Str} (X : K.In h) (G : h.Ns mainGlobals mg) (a : PySem.W.nsIn K mainGlobals c = some (some (.ref C))) (cl : Cls K C) (n : PySem.W.findIn K (.ref C) fn = some none) : FldAt K mg c fn := fun C' hC' => by
  rw [PySem.W.mg_of X G a] at hC'
  injection hC' with z
  injection z with z
  rw [← z]
  exact ⟨cl, n⟩
theorem initAt_mk (X : K.In h) (G : h.Ns mainGlobals mg) (a : PySem.W.nsIn K mainGlobals c = some (some (.ref C))) (m1 : PySem.W.makesIn K C = true) (m2 : PySem.W.findIn K (.ref C) "__init__" = some (some (.ref f))) (m3 : PySem.W.isFn K (.ref f) = true) (m4 : PySem.W.keepIn K (.ref C) = true)
    (l : K.lookup f = some ⟨oc, od, .func (PySem.W.fnOf "__init__" qual (defArgs st) (defBody st) (defScope st) .none kV doc pm an cdv ct), osl⟩) (cd : PySem.W.codeIn K cdv qual = true) (kf : PySem.W.keepIn K (.ref f) = true)
    (hb : ∀ (kV doc pm : Value) (an : Option Addr) (cdv ct : Value) (us : List Value), us.length = ps.length → bindArgs (PySem.W.fnOf "__init__" qual (defArgs st) (defBody st) (defScope st) .none kV doc pm an cdv ct) ⟨us, []⟩ = pure (ps.zip us)) : InitAt K mg c qual st ps := by
  have Fn := fun_mk (st := st) l cd kf
  exact ⟨C, f, _, PySem.W.mg_of X G a, ⟨m1, m2, m3, m4⟩, Fn, Fn.binds hb⟩
end
end Da
namespace Da
open PySem PySem.Spec L2
def F_law_gcd : FS := (fSeq (fSet 2 (fOn (on1 dAbs) (fA (fOn (on1 dInt) (fA (fV 0) fA0)) fA0)))
    (fSeq (fSet 3 (fOn (on1 dAbs) (fA (fOn (on1 dInt) (fA (fV 1) fA0)) fA0)))
    (fSeq (fFor (fR1 (fA (fC (.int 1000000)) fA0)) (gN 4) (fSeq (fIfS (fB (f2 dEq (fV 3) (fC (.int 0)))) fBrk fNext)
    (fSeq (fSet 5 (f2 dMod (fOn (on1 dInt) (fA (fV 2) fA0)) (fV 3)))
    (fSeq (fSet 2 (fV 3))
    (fSet 3 (fV 5))))))
    (fRet (fV 2)))))
def m_law_gcd : List D → Res D := runF 6 .sh F_law_gcd
def pw2 (n : Nat) : Nat := 2 ^ n
theorem pw2_succ (n : Nat) : pw2 (n + 1) = pw2 n * 2 := by unfold pw2; exact Nat.pow_succ 2 n
theorem pw2_0 : pw2 0 = 1 := rfl
def GLim : Nat := pw2 999999
theorem half_step {x y : Nat} (h : y < x) (h0 : 0 < y) : y * (x % y) * 2 ≤ x * y := by
  have h1 := Nat.mod_lt x h0
  have h2 := Nat.div_add_mod x y
  have h3 : 1 ≤ x / y := Nat.div_pos (Nat.le_of_lt h) h0
  have h4 : y * 1 ≤ y * (x / y) := Nat.mul_le_mul_left y h3
  have h5 : x % y * 2 ≤ x := by omega
  calc y * (x % y) * 2 = y * (x % y * 2) := Nat.mul_assoc _ _ _
    _ ≤ y * x := Nat.mul_le_mul_left y h5
    _ = x * y := Nat.mul_comm _ _
end Da
namespace Da
open PySem PySem.Spec L2
def F_law_fraction (rec : List D → Res D) : FS := (fSeq (fIfS (fB (f2 dLt (fV 1) (fC (.int 0)))) (fRet (fOn (chk 2 rec) (fA (f1 dNeg (fV 0)) (fA (f1 dNeg (fV 1)) fA0)))) fNext)
    (fSeq (fSet 2 (fOn (chk 2 m_law_gcd) (fA (fV 0) (fA (fV 1) fA0))))
    (fRet (fOn gTupD (fA (f2 dDiv (fV 0) (fV 2)) (fA (f2 dDiv (fV 1) (fV 2)) fA0))))))
def r_law_fraction : Nat → List D → Res D
  | 0 => fun _ => .er
  | n + 1 => runF 3 .sh (F_law_fraction (r_law_fraction n))
def m_law_fraction : List D → Res D := r_law_fraction 6
def F_law_added : FS := (fRet (fOn (chk 2 m_law_fraction) (fA (f2 dAdd (f2 dMul (f2 dIx (fV 0) (fC (.int 0))) (f2 dIx (fV 1) (fC (.int 1)))) (f2 dMul (f2 dIx (fV 1) (fC (.int 0))) (f2 dIx (fV 0) (fC (.int 1))))) (fA (f2 dMul (f2 dIx (fV 0) (fC (.int 1))) (f2 dIx (fV 1) (fC (.int 1)))) fA0))))
def m_law_added : List D → Res D := runF 2 .sh F_law_added
def F_ratio : FS := (fSeq (fIfS (fB (f2 dEq (fV 1) (fC (.int 0)))) (fun _ => .er) fNext)
    (fSeq (fSet 2 (fOn (on2 dGcd) (fA (fV 0) (fA (fV 1) fA0))))
    (fSeq (fIfS (fB (f2 dLt (fV 1) (fC (.int 0)))) (fSet 2 (f1 dNeg (fV 2))) fNext)
    (fRet (fOn gTupD (fA (f2 dDiv (fV 0) (fV 2)) (fA (f2 dDiv (fV 1) (fV 2)) fA0)))))))
def m_ratio : List D → Res D := runF 3 .sh F_ratio
def F_added : FS := (fRet (fOn (chk 2 m_ratio) (fA (f2 dAdd (f2 dMul (f2 dIx (fV 0) (fC (.int 0))) (f2 dIx (fV 1) (fC (.int 1)))) (f2 dMul (f2 dIx (fV 1) (fC (.int 0))) (f2 dIx (fV 0) (fC (.int 1))))) (fA (f2 dMul (f2 dIx (fV 0) (fC (.int 1))) (f2 dIx (fV 1) (fC (.int 1)))) fA0))))
def m_added : List D → Res D := runF 2 .sh F_added
/-- the fraction t/b in its lowest terms, as a pair -/
def frac (t b : Int) : D := .tup [.int (t / Int.gcd t b), .int (b / Int.gcd t b)]
theorem glim {a b : Int} (ha : a.natAbs < Lim) (hb : b.natAbs < Lim) : a.natAbs * b.natAbs < GLim := by
  have h : a.natAbs * b.natAbs < Lim * Lim := Nat.mul_lt_mul'' ha hb
  refine Nat.lt_of_lt_of_le h ?_
  unfold Lim GLim pw2
  rw [← Nat.pow_add]
  exact Nat.pow_le_pow_right (by decide) (by decide)
theorem gcd_pos' {t b : Int} (hb : 0 < b) : 0 < (Int.gcd t b : Int) := by
  have : 0 < Int.gcd t b := Int.gcd_pos_of_ne_zero_right t (by omega)
  omega
theorem gcd_lim {t b : Int} (hb : 0 < b) (hb' : b.natAbs < Lim) : ((Int.gcd t b : Int)).natAbs < Lim := by
  have h : Int.gcd t b ≤ b.natAbs := Nat.le_of_dvd (by omega) (Nat.gcd_dvd_right _ _)
  rw [Int.natAbs_natCast]
  exact Nat.lt_of_le_of_lt h hb'
/-- the number q as the program's pair -/
def frQ (q : Rat) : D := .tup [.int q.num, .int (q.den : Int)]
theorem frac_eq {t b : Int} (hb : 0 < b) : frac t b = frQ ((t : Rat) / (b : Rat)) := by
  have hn : b ≠ 0 := by omega
  rw [frQ, ← Rat.divInt_eq_div, Rat.num_divInt, Rat.den_divInt, if_neg hn, Int.sign_eq_one_of_pos hb, Int.one_mul, Int.gcd_comm b t, frac]
  rw [Int.natCast_ediv, Int.natAbs_of_nonneg (Int.le_of_lt hb)]
theorem rat_eq (q : Rat) : q = (q.num : Rat) / ((q.den : Int) : Rat) := by
  rw [← Rat.divInt_eq_div, Rat.divInt_ofNat, Rat.mkRat_self]
theorem den_ne (q : Rat) : ((q.den : Int) : Rat) ≠ 0 := by
  have := q.den_nz
  intro h
  exact this (by exact_mod_cast h)
theorem add_eq (p q : Rat) : (((p.num * (q.den : Int) + q.num * (p.den : Int) : Int)) : Rat) / (((p.den : Int) * (q.den : Int) : Int) : Rat) = p + q := by
  have hp := rat_eq p
  have hq := rat_eq q
  have h1 := den_ne p
  have h2 := den_ne q
  rw [Rat.intCast_add, Rat.intCast_mul, Rat.intCast_mul, Rat.intCast_mul]
  generalize (p.num : Rat) = a at *
  generalize ((p.den : Int) : Rat) = b at *
  generalize (q.num : Rat) = c at *
  generalize ((q.den : Int) : Rat) = d at *
  rw [hp, hq]
  grind
/-- small enough to add two of them -/
def Sm (q : Rat) : Prop := q.num.natAbs < 2 ^ 4400 ∧ q.den < 2 ^ 4400
theorem pow_lim : (2 : Nat) ^ 8800 + 2 ^ 8800 ≤ Lim := by
  unfold Lim
  rw [← Nat.two_mul, Nat.mul_comm, ← Nat.pow_succ]
  exact Nat.pow_le_pow_right (by decide) (by decide)
theorem mul_lim {a b : Nat} (ha : a < 2 ^ 4400) (hb : b < 2 ^ 4400) : a * b < 2 ^ 8800 := by
  have h := Nat.mul_lt_mul'' ha hb
  rw [← Nat.pow_add] at h
  exact h
theorem sum_lim {a b c d : Int} (ha : a.natAbs < 2 ^ 4400) (hb : b.natAbs < 2 ^ 4400) (hc : c.natAbs < 2 ^ 4400) (hd : d.natAbs < 2 ^ 4400) : (a * b + c * d).natAbs < Lim := by
  have h1 := mul_lim ha hb
  have h2 := mul_lim hc hd
  rw [← Int.natAbs_mul] at h1 h2
  have h3 := Int.natAbs_add_le (a * b) (c * d)
  exact Nat.lt_of_lt_of_le (Nat.lt_of_le_of_lt h3 (Nat.add_lt_add h1 h2)) pow_lim
theorem den_pos (p q : Rat) : 0 < (p.den : Int) * (q.den : Int) := Int.mul_pos (by have := p.den_pos; omega) (by have := q.den_pos; omega)
theorem den_lim {p q : Rat} (hp : Sm p) (hq : Sm q) : ((p.den : Int) * (q.den : Int)).natAbs < Lim := by
  rw [Int.natAbs_mul, Int.natAbs_natCast, Int.natAbs_natCast]
  exact Nat.lt_of_lt_of_le (mul_lim hp.2 hq.2) (Nat.le_trans (Nat.le_add_right _ _) pow_lim)
theorem Sm.d {p : Rat} (h : Sm p) : ((p.den : Int)).natAbs < 2 ^ 4400 := by rw [Int.natAbs_natCast]; exact h.2
end Da
namespace Da
open PySem PySem.Spec L2
def F_fraction_sum : FS := (fSeq (fSet 1 (fOn gTupD (fA (fC (.int 0)) (fA (fC (.int 1)) fA0))))
    (fSeq (fFor (fL (fV 0)) (gN 2) (fSet 1 (fOn (chk 2 m_added) (fA (fV 1) (fA (fV 2) fA0)))))
    (fRet (fV 1))))
def m_fraction_sum : List D → Res D := runF 3 .sh F_fraction_sum
/-- q is some n over L, n at most B -/
def In (L B : Nat) (q : Rat) : Prop := ∃ n : Int, q = (n : Rat) / ((L : Int) : Rat) ∧ n.natAbs ≤ B
theorem In.sm {L B : Nat} {q : Rat} (h : In L B q) (h0 : 0 < L) (hL : L < 2 ^ 4400) (hB : B < 2 ^ 4400) : Sm q := by
  obtain ⟨n, e, hn⟩ := h
  have hp : (0 : Int) < (L : Int) := by omega
  have f : frac n L = frQ q := by rw [frac_eq hp, e]
  injection f with f
  injection f with f1 f2
  injection f1 with f1
  injection f2 with f2 _
  injection f2 with f2
  constructor
  · rw [← f1]
    refine Nat.lt_of_le_of_lt (Nat.le_trans ?_ hn) hB
    exact Int.natAbs_ediv_le_natAbs _ _
  · have : ((L : Int) / (Int.gcd n L : Int)) ≤ (L : Int) := Int.ediv_le_self _ (by omega)
    omega
theorem In.add {L A B : Nat} {p q : Rat} (h : In L A p) (h' : In L B q) : In L (A + B) (p + q) := by
  obtain ⟨n, rfl, hn⟩ := h
  obtain ⟨k, rfl, hk⟩ := h'
  refine ⟨n + k, ?_, Nat.le_trans (Int.natAbs_add_le n k) (Nat.add_le_add hn hk)⟩
  rw [Rat.intCast_add]
  grind
theorem In.zero {L : Nat} : In L 0 0 := ⟨0, by grind, by simp⟩
def sumQ (qs : List Rat) : Rat := qs.foldl (· + ·) 0
theorem sumQ_snoc (qs : List Rat) (q : Rat) : sumQ (qs ++ [q]) = sumQ qs + q := by unfold sumQ; rw [List.foldl_append]; rfl
theorem In.sum {L B : Nat} {qs : List Rat} (h : ∀ q ∈ qs, In L B q) (n : Nat) : In L (n * B) (sumQ (qs.take n)) := by
  induction n with
  | zero => simp [sumQ]; exact In.zero
  | succ n ih =>
    cases e : qs[n]? with
    | none =>
      have : qs.take (n + 1) = qs.take n := by
        rw [List.take_of_length_le, List.take_of_length_le] <;> have := List.getElem?_eq_none_iff.mp e <;> omega
      rw [this]
      obtain ⟨k, ek, hk⟩ := ih
      exact ⟨k, ek, Nat.le_trans hk (Nat.mul_le_mul_right B (Nat.le_succ n))⟩
    | some q =>
      rw [List.take_succ, e, Option.toList_some, sumQ_snoc, Nat.succ_mul]
      exact ih.add (h q (List.mem_of_getElem? e))
end Da
namespace Da
open PySem PySem.Spec L2
def F_law_same (rec : List D → Res D) : FS := (fSeq (fIfS (fOr (fTr (f1 (dIsi "tuple") (fV 1))) (fTr (f1 (dIsi "list") (fV 1)))) (fSeq (fIfS (fOr (fNot (fTr (f1 (dIsi "tuple") (fV 0)))) (fB (f2 dNe (fOn (on1 dLen) (fA (fV 0) fA0)) (fOn (on1 dLen) (fA (fV 1) fA0))))) (fRet (fC (.bl false))) fNext)
    (fSeq (fFor (fR1 (fA (fOn (on1 dLen) (fA (fV 1) fA0)) fA0)) (gN 2) (fIfS (fNot (fTr (fOn (chk 2 rec) (fA (f2 dIx (fV 0) (fV 2)) (fA (f2 dIx (fV 1) (fV 2)) fA0))))) (fRet (fC (.bl false))) fNext))
    (fRet (fC (.bl true))))) fNext)
    (fSeq (fIfS (fB (f1 dIsN (fV 1))) (fRet (f1 dIsN (fV 0))) fNext)
    (fSeq (fIfS (fB (f1 (dIsB true) (fV 1))) (fRet (f1 (dIsB true) (fV 0))) fNext)
    (fSeq (fIfS (fB (f1 (dIsB false) (fV 1))) (fRet (f1 (dIsB false) (fV 0))) fNext)
    (fSeq (fIfS (fTr (f1 (dIsi "str") (fV 1))) (fRet (fBv (fAnd (fB (f1 (dIsi "str") (fV 0))) (fB (f2 dEq (fV 0) (fV 1)))))) fNext)
    (fRet (fBv (fAnd (fB (fOn (chk 1 m_law_whole) (fA (fV 0) fA0))) (fB (f2 dEq (fV 0) (fV 1)))))))))))
def r_law_same : Nat → List D → Res D
  | 0 => fun _ => .er
  | n + 1 => runF 3 .sh (F_law_same (r_law_same n))
def m_law_same : List D → Res D := r_law_same 6
theorem In.mono {L A B : Nat} {q : Rat} (h : In L A q) (hab : A ≤ B) : In L B q := by
  obtain ⟨n, e, hn⟩ := h
  exact ⟨n, e, Nat.le_trans hn hab⟩
theorem In.of {t b : Int} {L : Nat} (k : Nat) (hb : 0 < b) (h0 : 0 < L) (hk : b * k = L) : In L (t.natAbs * k) ((t : Rat) / (b : Rat)) := by
  refine ⟨t * k, ?_, by rw [Int.natAbs_mul, Int.natAbs_natCast]; exact Nat.le_refl _⟩
  have hkn : (k : Int) ≠ 0 := by
    intro h
    rw [h, Int.mul_zero] at hk
    omega
  have h1 : ((k : Int) : Rat) ≠ 0 := by exact_mod_cast hkn
  have h2 : (b : Rat) ≠ 0 := by exact_mod_cast (show b ≠ 0 by omega)
  rw [← hk, Rat.intCast_mul, Rat.intCast_mul]
  generalize ((k : Int) : Rat) = x at *
  generalize (b : Rat) = y at *
  generalize (t : Rat) = z at *
  grind
end Da
namespace Da
open PySem PySem.Spec L2
def lc2Go (g : D → Env → Res Env) (c : Env → Res Bool) (vs1 : List Nat) (it1 : Env → Res (List D)) (g1 : D → Env → Res Env) (c1 : Env → Res Bool) (f : Env → Res D) (ρ : Env) : List D → Res (List D)
  | [] => .ok []
  | x :: xs => match g x ρ with
    | .ok ρ1 => (match c ρ1 with
      | .ok b => if b = true then (match it1 ρ1 with
        | .ok ys => (match lcGo g1 c1 f (wipeD ρ1 vs1) ys with
          | .ok zs => (match lc2Go g c vs1 it1 g1 c1 f ρ xs with
            | .ok ws => .ok (zs ++ ws)
            | _ => .er)
          | _ => .er)
        | _ => .er) else lc2Go g c vs1 it1 g1 c1 f ρ xs
      | _ => .er)
    | _ => .er
def fLc2 (vs : List Nat) (it : Env → Res (List D)) (g : D → Env → Res Env) (c : Env → Res Bool) (vs1 : List Nat) (it1 : Env → Res (List D)) (g1 : D → Env → Res Env) (c1 : Env → Res Bool) (f : Env → Res D) : Env → Res D := fun ρ => (it ρ).bind fun xs => match lc2Go g c vs1 it1 g1 c1 f (wipeD ρ vs) xs with
  | .ok ys => if szOk ys.length = true then .ok (.lst ys) else .er
  | _ => .er
section
variable {K : PySem.W.Frag} {mg : Str → Option Value} {E : WX} {m : Mds} {it it1 : Env → Res (List D)} {g g1 : D → Env → Res Env} {c c1 : Env → Res Bool} {f : Env → Res D} {ts ts1 vs vs1 : List Nat}
/-- the list under way, rest still to come -/
def AcW (K : PySem.W.Frag) (mg : Str → Option Value) (D0 : Addr) (S1 H1 : Hp) (ys rest : List D) (H : Hp) : Prop :=
  ∃ S2 ws ds, Step S1 H1 S2 H ∧ S2 D0 = none ∧ H D0 = some (.lst ws) ∧ RepL K mg S2 ws ds ∧ ys = ds ++ rest
theorem upd_upd {H : Hp} {p : Addr} {o o' : HO} : upd (upd H p o) p o' = upd H p o' := by
  funext a
  by_cases h : a = p
  · subst h; rw [upd_same, upd_same]
  · rw [upd_ne h, upd_ne h, upd_ne h]
theorem upd_self {H : Hp} {p : Addr} {o : HO} (h : H p = some o) : upd H p o = H := by
  funext a
  by_cases e : a = p
  · subst e; rw [upd_same, h]
  · rw [upd_ne e]
theorem Step.swap {S H S' H' : Hp} {p : Addr} {o : HO} (st : Step S H S' H') (hs : S' p = none) : Step S (upd H p o) S' (upd H' p o) := by
  refine ⟨fun b x e => ?_, st.ss, fun b x e => ?_, fun a x => ?_⟩
  · by_cases h : b = p
    · subst h; rw [upd_same] at e ⊢; exact e
    · rw [upd_ne h] at e ⊢; exact st.hh b x e
  · rw [upd_ne (ne_of_none e hs)]
    exact st.sub b x e
  · have h : a ≠ p := fun z => by rw [z] at x; exact x hs
    rw [upd_ne h]
    exact st.new a x
/-- slots beside an object that is written -/
theorem EnvF.aside {m : Mds} {F : Nat → List Addr} {S6 H6 S7 H : Hp} {σ : L2.St} {ρ : Env} {D0 : Addr} {o o7 : HO} (h : EnvF K mg m F S6 H6 σ ρ) (hn : ∀ i d, ρ[i]? = some (some d) → D0 ∉ F i) (st : Step S6 H6 S7 (upd H D0 o)) (h7 : S7 D0 = none) (hD : H D0 = some o7) : EnvF K mg m F S7 H σ ρ := by
  have q := h.step st
  refine ⟨q.len, fun i d e => ?_, q.nd, q.apart⟩
  obtain ⟨v, e1, e2⟩ := q.at_ i d e
  have e3 := e2.other (o := o7) h7 (hn i d e)
  rw [upd_upd, upd_self hD] at e3
  exact ⟨v, e1, e3⟩
/-- slots as of a body before which nothing was but one object, that is none of theirs -/
theorem EnvM.bareX {m : Mds} {S1 H1 S H : Hp} {σ : L2.St} {ρ : Env} {D0 : Addr} {o : HO} (vs : List Nat) (h : EnvM K mg m S1 H1 σ ρ) (hD : H1 D0 = none) (st : Step S1 H1 S H) (hS : S D0 = none) (hH : H D0 = some o) : ∃ F, StF K mg m (fun _ => none) (fun a => if a = D0 then some o else none) S F (L2.wipe σ vs) (wipeD ρ vs) H := by
  obtain ⟨_, F, h⟩ := h
  have hw := h.wipe vs
  refine ⟨F, ⟨fun b x e => ?_, (fun _ _ e => nomatch e), st.sub, fun a x => ?_⟩, hw.step st, fun i d e a ha => ?_⟩
  · have e : (if b = D0 then some o else none) = some x := e
    by_cases hb : b = D0
    · rw [if_pos hb] at e; rw [hb, hH]; exact e
    · rw [if_neg hb] at e; cases e
  · by_cases ha : a = D0
    · rw [ha] at x; exact absurd hS x
    · exact .inr (if_neg ha)
  · obtain ⟨v, _, ow⟩ := hw.at_ i d e
    obtain ⟨_, u, hu⟩ := ow.out ha
    exact if_neg fun z => by rw [z, hD] at hu; cases hu
theorem lc2_ok {σ : L2.St} {H : Hp} {Q : VK} (hts : ∀ t ∈ ts, t ∈ vs) (hts1 : ∀ t ∈ ts1, t ∈ vs1) (h : tE K mg E m .ow (fLc2 vs it g c vs1 it1 g1 c1 f) σ H Q) :
    tLc2 (tI K mg E m it) (tGD K mg m ts g) (tT K mg EF m c) (tI K mg EF m it1) (tGD K mg m ts1 g1) (tT K mg EF m c1) (tE K mg EF m .sh f) vs vs1 σ H Q := by
  obtain ⟨S, ρ, hm, hp⟩ := h
  refine ⟨S, ρ, hm, (Post.bind hp).imp fun xs S1 H1 s1 k J w D0 hD => ?_⟩
  cases eg : lc2Go g c vs1 it1 g1 c1 f (wipeD ρ vs) xs with
  | ex c' fs => rw [eg] at k; exact k.elim
  | er => rw [eg] at k; exact k.elim
  | ok ys =>
    rw [eg] at k
    have k : Post K mg (WE E σ) S1 H1 .ow (if szOk ys.length = true then .ok (.lst ys) else .er) Q := k
    obtain ⟨hz, k⟩ := Post.of_if k
    have hz := szOk_le hz
    refine ⟨fun i n H => n = xs.length - i ∧ i ≤ xs.length ∧ ∃ rest, lc2Go g c vs1 it1 g1 c1 f (wipeD ρ vs) (xs.drop i) = .ok rest ∧ AcW K mg D0 S1 H1 ys rest H, ⟨xs.length, by simp, Nat.zero_le _, ys, eg, S1, [], [], Step.hid s1.sub hD, s1.sub.free hD, upd_same, .nil, rfl⟩, ?_⟩
    rintro i n H2 ⟨rfl, hi, rest, el, S2, ws, ds, st2, hs2, hd2, rv, ey⟩
    by_cases hlt : i < xs.length
    · obtain ⟨hgo, hyl⟩ := w.go i xs[i] S2 H2 (List.getElem?_eq_getElem hlt) st2.ss st2.sub
      refine .inr ⟨hgo, fun H => ∃ rest, lc2Go g c vs1 it1 g1 c1 f (wipeD ρ vs) (xs.drop (i + 1)) = .ok rest ∧ AcW K mg D0 S1 H1 ys rest H, fun H' z => ⟨xs.length - (i + 1), by omega, rfl, hlt, z⟩, fun x H3 y => ?_⟩
      obtain ⟨S3, s3, r3⟩ := hyl x H3 y
      rw [List.drop_eq_getElem_cons hlt] at el
      unfold lc2Go at el
      cases eg1 : g xs[i] (wipeD ρ vs) with
      | ex c' fs => rw [eg1] at el; cases el
      | er => rw [eg1] at el; cases el
      | ok ρ1 =>
        rw [eg1] at el
        simp only at el
        have st3 := st2.trans s3
        obtain ⟨F, stF⟩ := EnvM.bareX vs (hm.step s1) hD st3 (s3.out hs2 hd2) (s3.hh _ _ hd2)
        refine ⟨_, _, S3, F, wipeD ρ vs, xs[i], stF, r3, ?_⟩
        rw [eg1]
        intro σ4 S4 F4 H4 st4 s4 hfr
        refine ⟨wipe_eq (by rw [hfr.1, L2.wipe_length]) hfr.2 hts, S4, ρ1, st4.envM, ?_⟩
        cases ec : c ρ1 with
        | ex c' fs => rw [ec] at el; cases el
        | er => rw [ec] at el; cases el
        | ok b =>
          rw [ec] at el
          simp only at el
          intro S5 H5 s5
          have a5 := (s3.trans s4).trans s5
          have em5 := (st4.envM).step s5
          cases b with
          | false =>
            rw [if_neg (by decide)] at el
            show ∃ rest, lc2Go g c vs1 it1 g1 c1 f (wipeD ρ vs) (xs.drop (i + 1)) = .ok rest ∧ AcW K mg D0 S1 H1 ys rest H5
            exact ⟨rest, el, S5, ws, ds, st2.trans a5, a5.out hs2 hd2, a5.hh _ _ hd2, rv.mono a5.ss, ey⟩
          | true =>
            rw [if_pos rfl] at el
            show tI K mg EF m it1 σ4 H5 _
            refine ⟨S5, ρ1, em5, ?_⟩
            cases ei : it1 ρ1 with
            | ex c' fs => rw [ei] at el; cases el
            | er => rw [ei] at el; cases el
            | ok ys1 =>
              rw [ei] at el
              simp only at el
              cases ez : lcGo g1 c1 f (wipeD ρ1 vs1) ys1 with
              | ex c' fs => rw [ez] at el; cases el
              | er => rw [ez] at el; cases el
              | ok zs =>
                rw [ez] at el
                simp only at el
                cases ew : lc2Go g c vs1 it1 g1 c1 f (wipeD ρ vs) (xs.drop (i + 1)) with
                | ex c' fs => rw [ew] at el; cases el
                | er => rw [ew] at el; cases el
                | ok us =>
                  rw [ew] at el
                  cases el
                  intro S6 H6 s6 J1 w1
                  have a6 := a5.trans s6
                  have em6 := em5.step s6
                  refine ⟨fun j n H => n = ys1.length - j ∧ j ≤ ys1.length ∧ ∃ rest1 S7 ws7 ds7, lcGo g1 c1 f (wipeD ρ1 vs1) (ys1.drop j) = .ok rest1 ∧ Step S6 H6 S7 (upd H D0 (.lst ws)) ∧ Step S1 H1 S7 H ∧ S7 D0 = none ∧ H D0 = some (.lst ws7) ∧ RepL K mg S7 ws7 ds7 ∧ ys = ds7 ++ (rest1 ++ us), ⟨ys1.length, by simp, Nat.zero_le _, zs, S6, ws, ds, ez, ?_, st2.trans a6, a6.out hs2 hd2, a6.hh _ _ hd2, rv.mono a6.ss, ey⟩, ?_⟩
                  · rw [upd_self (a6.hh _ _ hd2)]
                    exact Step.refl s6.sub
                  rintro j n7 H7 ⟨rfl, hj, rest1, S7, ws7, ds7, el1, t7, u7, hs7, hd7, rv7, ey7⟩
                  by_cases hlt1 : j < ys1.length
                  · obtain ⟨hgo1, hyl1⟩ := w1.go j ys1[j] S7 H7 (List.getElem?_eq_getElem hlt1) t7.ss u7.sub
                    refine .inr ⟨hgo1, fun H => ∃ rest1 S7 ws7 ds7, lcGo g1 c1 f (wipeD ρ1 vs1) (ys1.drop (j + 1)) = .ok rest1 ∧ Step S6 H6 S7 (upd H D0 (.lst ws)) ∧ Step S1 H1 S7 H ∧ S7 D0 = none ∧ H D0 = some (.lst ws7) ∧ RepL K mg S7 ws7 ds7 ∧ ys = ds7 ++ (rest1 ++ us), fun H' z => ⟨ys1.length - (j + 1), by omega, rfl, hlt1, z⟩, fun x1 H8 y1 => ?_⟩
                    obtain ⟨S8, s8, r8⟩ := hyl1 x1 H8 y1
                    have nD : ∀ i d, ρ1[i]? = some (some d) → D0 ∉ F4 i := fun i d e z => by
                      have := st4.2.2 i d e D0 z
                      have : (if D0 = D0 then some (HO.lst ws) else none) = none := this
                      rw [if_pos rfl] at this
                      cases this
                    have e6 := (st4.2.1.step s5).step s6
                    have e7 := e6.aside nD t7 hs7 hd7
                    have em8 : EnvM K mg m S8 H8 σ4 ρ1 := ⟨s8.sub, F4, e7.step s8⟩
                    obtain ⟨F8, st8⟩ := (em8.wipe vs1).bare
                    rw [List.drop_eq_getElem_cons hlt1] at el1
                    unfold lcGo at el1
                    cases eg2 : g1 ys1[j] (wipeD ρ1 vs1) with
                    | ex c' fs => rw [eg2] at el1; cases el1
                    | er => rw [eg2] at el1; cases el1
                    | ok ρ2 =>
                      rw [eg2] at el1
                      simp only at el1
                      refine ⟨_, _, S8, F8, wipeD ρ1 vs1, ys1[j], st8, r8, ?_⟩
                      rw [eg2]
                      intro σ9 S9 F9 H9 st9 s9 hfr9
                      refine ⟨wipe_eq (by rw [hfr9.1, L2.wipe_length]) hfr9.2 hts1, S9, ρ2, st9.envM, ?_⟩
                      cases ec1 : c1 ρ2 with
                      | ex c' fs => rw [ec1] at el1; cases el1
                      | er => rw [ec1] at el1; cases el1
                      | ok b1 =>
                        rw [ec1] at el1
                        simp only at el1
                        intro S10 H10 s10
                        have a10 := (s8.trans s9).trans s10
                        cases b1 with
                        | false =>
                          rw [if_neg (by decide)] at el1
                          exact ⟨rest1, S10, ws7, ds7, el1, t7.trans (a10.swap (a10.out hs7 hd7)), u7.trans a10, a10.out hs7 hd7, a10.hh _ _ hd7, rv7.mono a10.ss, ey7⟩
                        | true =>
                          rw [if_pos rfl] at el1
                          show tE K mg EF m Md.sh f σ9 H10 _
                          refine ⟨S10, ρ2, (st9.envM).step s10, ?_⟩
                          cases ef : f ρ2 with
                          | ex c' fs => rw [ef] at el1; cases el1
                          | er => rw [ef] at el1; cases el1
                          | ok z' =>
                            rw [ef] at el1
                            simp only at el1
                            intro v S11 H11 fp s11 o _ _
                            have a11 := a10.trans s11
                            cases er : lcGo g1 c1 f (wipeD ρ1 vs1) (ys1.drop (j + 1)) with
                            | ex c' fs => rw [er] at el1; cases el1
                            | er => rw [er] at el1; cases el1
                            | ok rest2 =>
                              rw [er] at el1
                              cases el1
                              have hl7 := rv7.len
                              have hly : ys.length = ds7.length + (1 + rest2.length + us.length) := by rw [ey7]; simp; omega
                              refine ⟨ws7, a11.hh _ _ hd7, by rw [hl7, sizeLine_eq]; omega, rest2, S11, ws7 ++ [v], ds7 ++ [z'], rfl, ?_, (u7.trans a11).write (a11.out hs7 hd7) hD, a11.out hs7 hd7, upd_same, (rv7.mono a11.ss).snoc o.1, by rw [ey7]; simp⟩
                              rw [upd_upd]
                              exact t7.trans (a11.swap (a11.out hs7 hd7))
                  · have e : j = ys1.length := by omega
                    subst e
                    rw [List.drop_length] at el1
                    cases el1
                    refine .inl ⟨w1.stop S7 H7 t7.ss u7.sub, us, rfl, S7, ws7, ds7, u7, hs7, hd7, rv7, by rw [ey7]; simp⟩
    · have e : i = xs.length := by omega
      subst e
      rw [List.drop_length] at el
      cases el
      rw [List.append_nil] at ey
      subst ey
      exact .inl ⟨w.stop S2 H2 st2.ss st2.sub, k _ S2 H2 [D0] st2 ⟨D0, ws, _, rfl, rfl, rfl, hs2, hd2, rv⟩ (by simp) (fun a z => by
        have : a = D0 := by simpa using z
        rw [this]; exact hD)⟩
end
section
variable {X : Cx} {E : WX} {L : Lp} {m : Mds} {ts ts1 : List Nat} {N0 ps0 : List Str} {sc0 scO : Scope} {elt tg iter tg1 iter1 : Expr} {ifs ifs1 : List Expr} {scope : Scope} {pos : Pos} {it it1 : Env → Res (List D)} {g g1 : D → Env → Res Env} {c c1 : Env → Res Bool} {f : Env → Res D}
theorem je_lc2 (Sc : FnScope N0 ps0 sc0) (own : List (Str × Nat)) (vs1 : List Nat) (hi : JI X E m tg iter it)
    (hg : ∀ (s : Shared) (H : Hp) (C : Addr) (cl : List (Str × Addr)) (fp : List Addr), JG (X.blk s H scope (compEnvC scope cl C X.env) fp) m ts tg g) (ht : ∀ (s : Shared) (H : Hp) (C : Addr) (cl : List (Str × Addr)) (fp : List Addr), JTs (X.blk s H scope (compEnvC scope cl C X.env) fp) EF m ifs c)
    (hi1 : ∀ (s : Shared) (H : Hp) (C : Addr) (cl : List (Str × Addr)) (fp : List Addr), JI (X.blk s H scope (compEnvC scope cl C X.env) fp) EF m tg1 iter1 it1) (hg1 : ∀ (s : Shared) (H : Hp) (C : Addr) (cl : List (Str × Addr)) (fp : List Addr), JG (X.blk s H scope (compEnvC scope cl C X.env) fp) m ts1 tg1 g1) (ht1 : ∀ (s : Shared) (H : Hp) (C : Addr) (cl : List (Str × Addr)) (fp : List Addr), JTs (X.blk s H scope (compEnvC scope cl C X.env) fp) EF m ifs1 c1)
    (he : ∀ (s : Shared) (H : Hp) (C : Addr) (cl : List (Str × Addr)) (fp : List Addr), JE (X.blk s H scope (compEnvC scope cl C X.env) fp) EF m .sh elt f) (hc : X.calm = true := by rfl) (hN0 : X.N = N0 := by rfl) (hsc : X.env.scope = sc0 := by rfl) (ok : blkC N0 (sc0) scope own = true := by decide +kernel) (hts : ∀ t ∈ ts, t ∈ own.map (·.2) := by decide) (hts1 : ∀ t ∈ ts1, t ∈ vs1 := by decide) (hv : ∀ i ∈ vs1, i ∈ own.map (·.2) := by decide)
    (hs : ∀ x, foldedSetIterable iter X.env x = pure x := by intro _; rfl) (hs1 : ∀ env x, foldedSetIterable iter1 env x = pure x := by intro _ _; rfl) : JE X E m .ow (.ListComp elt [⟨tg, iter, ifs, 0⟩, ⟨tg1, iter1, ifs1, 0⟩] scope pos) (fLc2 (own.map (·.2)) it g c vs1 it1 g1 c1 f) :=
  ⟨PEimp (pe_lc2 (g := tGD X.K X.mg m ts g) (tt := tT X.K X.mg EF m c) (wi1 := tI X.K X.mg EF m it1) (g1 := tGD X.K X.mg m ts1 g1) (tt1 := tT X.K X.mg EF m c1) (te := tE X.K X.mg EF m .sh f) hc (by rw [hN0]; exact Sc.nd) hi.pi (blkOk_by (by rw [hN0, hsc]; exact ok)) hv (fun s H C cl fp => (hg s H C cl fp).pg) (fun s H C cl fp => (ht s H C cl fp).pt) (fun s H C cl fp => (hi1 s H C cl fp).pi) (fun s H C cl fp => (hg1 s H C cl fp).pg) (fun s H C cl fp => (ht1 s H C cl fp).pt) (fun s H C cl fp => (he s H C cl fp).pe) hs hs1) fun σ H Q h => lc2_ok hts hts1 h⟩
end
end Da
namespace Da
open PySem PySem.Spec L2
end Da
namespace Da
open PySem PySem.Spec L2
section
variable {X : Cx} {E : WX} {L : Lp} {m : Mds} {ts : List Nat} {N0 ps0 : List Str} {sc0 : Scope} {elt tg iter e j : Expr} {ifs : List Expr} {scope : Scope} {pos p1 p2 p3 p4 : Pos} {it : Env → Res (List D)} {g : D → Env → Res Env} {c : Env → Res Bool} {f fj : Env → Res D} {x : Str}
/-- x[j].append(e) of an own list of own lists -/
def fApp2 (i : Nat) (fj fe : Env → Res D) : FS := fun ρ => match ρ[i]? with
  | some (some (.lst xs)) => lift (fj ρ) ρ fun y => match y with
    | .int z => (match ixN xs.length z with
      | some k => (match xs[k]? with
        | some (.lst us) => lift (fe ρ) ρ fun d => if szOk (us.length + 1) = true then .ok (.nx (ρ.set i (some (.lst (xs.set k (.lst (us ++ [d]))))))) else .er
        | _ => .er)
      | none => .er)
    | _ => .er
  | _ => .er
end
end Da
namespace Da
open PySem PySem.Spec L2
end Da
namespace Da
open PySem PySem.Spec L2
end Da
namespace Da
open PySem PySem.Spec L2
def Rf {α β : Type} (m : Res β) (r : Res α) (e : α → β) : Prop := match r with
  | .ok v => m = .ok (e v)
  | .ex c fs => m = .ex c fs
  | .er => True
section
variable {α β γ δ : Type} {m : Res β} {r : Res α} {e : α → β} {k : β → Res δ} {h : α → Res γ} {o : γ → δ} {v : α}
theorem rf_ok (h : m = .ok (e v)) : Rf m (.ok v) e := h
theorem b_p {d : β} {r : Res γ} (hm : m = .ok d) (hk : Rf (k d) r o) : Rf (m.bind k) r o := by rw [hm]; exact hk
theorem b_i (hm : Rf m r e) (hk : ∀ x, Rf (k (e x)) (h x) o) : Rf (m.bind k) (r.bind h) o := by
  cases r with
  | ok v => rw [show m = _ from hm]; exact hk v
  | ex c fs => rw [show m = _ from hm]; exact rfl
  | er => exact trivial
/-- the same, told by another -/
theorem rf_co {α' : Type} {e' : α' → β} (c : α → α') (hm : Rf m r e) (he : ∀ x, e x = e' (c x)) : Rf m (r.bind fun x => .ok (c x)) e' := by
  cases r with
  | ok v => exact (show m = _ from hm).trans (congrArg _ (he v))
  | ex c fs => exact hm
  | er => exact trivial
/-- without exceptions -/
def nx {α : Type} (r : Res α) : Res α := match r with
  | .ok v => .ok v
  | _ => .er
@[simp] theorem nx_ok {α : Type} {v : α} : nx (.ok v) = .ok v := rfl
theorem rf_use {v : α} (hm : Rf m r e) (hr : r = .ok v) : m = .ok (e v) := by rw [hr] at hm; exact hm
end
section
variable {α γ δ : Type} {ρ : Env} {fa : Env → Res D} {fs : Env → Res (List D)} {k : List D → Res δ} {o : γ → δ}
theorem a_0 {r : Res γ} (h : Rf (k []) r o) : Rf ((fA0 ρ).bind k) r o := h
theorem a_p {d : D} {r : Res γ} (ha : fa ρ = .ok d) (h : Rf ((fs ρ).bind fun xs => k (d :: xs)) r o) : Rf ((fA fa fs ρ).bind k) r o := by
  show Rf (((fa ρ).bind _).bind k) r o
  rw [ha]
  show Rf (((fs ρ).bind fun xs => .ok (d :: xs)).bind k) r o
  revert h
  cases fs ρ <;> exact id
theorem a_i {ra : Res α} {ea : α → D} {h : α → Res γ} (ha : Rf (fa ρ) ra ea) (hk : ∀ x, Rf ((fs ρ).bind fun xs => k (ea x :: xs)) (h x) o) : Rf ((fA fa fs ρ).bind k) (ra.bind h) o := by
  cases ra with
  | ok v => exact a_p ha (hk v)
  | ex c fs' =>
    show ((fa ρ).bind _).bind k = _
    rw [show fa ρ = _ from ha]
    rfl
  | er => exact trivial
end
section
variable {ρ : Env} {fa fb f : Env → Res D} {g : D → Res D} {g2 : D → D → Res D} {c ca cb : Env → Res Bool} {x y z : D} {a b : Bool}
theorem ev1 (ha : fa ρ = .ok x) (hg : g x = .ok z) : f1 g fa ρ = .ok z := by unfold f1; rw [ha]; exact hg
theorem ev2 (ha : fa ρ = .ok x) (hb : fb ρ = .ok y) (hg : g2 x y = .ok z) : f2 g2 fa fb ρ = .ok z := by unfold f2; rw [ha]; show (fb ρ).bind _ = _; rw [hb]; exact hg
theorem evB (ha : f ρ = .ok (.bl a)) : fB f ρ = .ok a := by unfold fB; rw [ha]; rfl
theorem evBv (ha : c ρ = .ok a) : fBv c ρ = .ok (.bl a) := by unfold fBv; rw [ha]; rfl
theorem evTr (ha : f ρ = .ok x) (ht : trD x = .ok a) : fTr f ρ = .ok a := by unfold fTr; rw [ha]; exact ht
theorem evNot (ha : c ρ = .ok a) : fNot c ρ = .ok (!a) := by unfold fNot; rw [ha]; rfl
theorem evAnd (ha : ca ρ = .ok a) (hb : cb ρ = .ok b) : fAnd ca cb ρ = .ok (a && b) := by unfold fAnd; rw [ha]; cases a <;> first | rfl | exact hb
theorem evOr (ha : ca ρ = .ok a) (hb : cb ρ = .ok b) : fOr ca cb ρ = .ok (a || b) := by unfold fOr; rw [ha]; cases a <;> first | rfl | exact hb
theorem evAndT (ha : ca ρ = .ok true) (hb : cb ρ = .ok b) : fAnd ca cb ρ = .ok b := by unfold fAnd; rw [ha]; exact hb
theorem evOrT (ha : ca ρ = .ok true) : fOr ca cb ρ = .ok true := by unfold fOr; rw [ha]; rfl
theorem evOrF (ha : ca ρ = .ok false) (hb : cb ρ = .ok b) : fOr ca cb ρ = .ok b := by unfold fOr; rw [ha]; exact hb
theorem evSc (h : f ρ = .ok x) (hs : isSc x = true) : fSc f ρ = .ok x := by unfold fSc; rw [h]; show (if isSc x = true then _ else _) = _; rw [hs]; rfl
theorem evNx {α : Type} {f : Env → Res α} {x : α} (h : f ρ = .ok x) : fNx f ρ = .ok x := by unfold fNx; rw [h]
theorem evA {fs : Env → Res (List D)} {xs : List D} (ha : fa ρ = .ok x) (hs : fs ρ = .ok xs) : fA fa fs ρ = .ok (x :: xs) := by unfold fA; rw [ha]; show (fs ρ).bind _ = _; rw [hs]; rfl
theorem evOn {fs : Env → Res (List D)} {xs : List D} {g : List D → Res D} (ha : fs ρ = .ok xs) (hg : g xs = .ok z) : fOn g fs ρ = .ok z := by unfold fOn; rw [ha]; exact hg
theorem evL {xs : List D} (ha : f ρ = .ok x) (hx : asL x = .ok xs) : fL f ρ = .ok xs := by unfold fL; rw [ha]; exact hx
variable {α γ : Type} {o : γ → D} {oB : γ → Bool} {ra : Res α} {ea : α → D}
theorem rAnd {rb : Res Bool} (ha : ca ρ = .ok a) (hb : Rf (cb ρ) rb (fun x => x)) : Rf (fAnd ca cb ρ) (if a = true then rb else .ok false) (fun x => x) := by
  unfold fAnd; rw [ha]; cases a with
  | true => exact hb
  | false => exact rfl
theorem rOr {rb : Res Bool} (ha : ca ρ = .ok a) (hb : Rf (cb ρ) rb (fun x => x)) : Rf (fOr ca cb ρ) (if a = true then .ok true else rb) (fun x => x) := by
  unfold fOr; rw [ha]; cases a with
  | true => exact rfl
  | false => exact hb
theorem rAndI {ra rb : Res Bool} (ha : Rf (ca ρ) ra (fun x => x)) (hb : Rf (cb ρ) rb (fun x => x)) : Rf (fAnd ca cb ρ) (ra.bind fun a => if a = true then rb else .ok false) (fun x => x) := b_i ha fun a => by
  cases a with
  | true => exact hb
  | false => exact rfl
theorem rOrI {ra rb : Res Bool} (ha : Rf (ca ρ) ra (fun x => x)) (hb : Rf (cb ρ) rb (fun x => x)) : Rf (fOr ca cb ρ) (ra.bind fun a => if a = true then .ok true else rb) (fun x => x) := b_i ha fun a => by
  cases a with
  | true => exact rfl
  | false => exact hb
theorem rNx {α : Type} {β : Type} {f : Env → Res β} {ra : Res α} {ea : α → β} (h : Rf (f ρ) ra ea) : Rf (fNx f ρ) (nx ra) ea := by
  cases ra with
  | ok v => exact evNx h
  | _ => exact trivial
end
def eL {α : Type} (e : α → D) : List α → D := fun xs => .lst (xs.map e)
def eT {α : Type} (e : α → D) : List α → D := fun xs => .tup (xs.map e)
def eF {α : Type} (e : α → D) : List α → D := fun xs => .frl (xs.map e)
def eO {α : Type} (e : α → D) : Option α → D := fun x => match x with
  | none => .non
  | some v => e v
def eN : Unit → D := fun _ => .non
def eP1 {α : Type} (e : α → D) : α → D := fun p => .tup [e p]
def eP2 {α β : Type} (e : α → D) (f : β → D) : α × β → D := fun p => .tup [e p.1, f p.2]
def eP3 {α β γ : Type} (e : α → D) (f : β → D) (g : γ → D) : α × β × γ → D := fun p => .tup [e p.1, f p.2.1, g p.2.2]
def eP4 {α β γ δ : Type} (e : α → D) (f : β → D) (g : γ → D) (h : δ → D) : α × β × γ × δ → D := fun p => .tup [e p.1, f p.2.1, g p.2.2.1, h p.2.2.2]
def eH2 {α β : Type} (e : α → D) (f : β → D) : α × β → D := fun p => .lst [e p.1, f p.2]
def eH4 {α β γ δ : Type} (e : α → D) (f : β → D) (g : γ → D) (h : δ → D) : α × β × γ × δ → D := fun p => .lst [e p.1, f p.2.1, g p.2.2.1, h p.2.2.2]
/-- own objects: by their fields' encoders -/
def eOb1 {α : Type} (c : Str) (n1 : Str) (e : α → D) : α → D := fun p => .obj c [n1] [e p]
def eOb2 {α β : Type} (c : Str) (n1 n2 : Str) (e : α → D) (f : β → D) : α × β → D := fun p => .obj c [n1, n2] [e p.1, f p.2]
def eOb3 {α β γ : Type} (c : Str) (n1 n2 n3 : Str) (e : α → D) (f : β → D) (g : γ → D) : α × β × γ → D := fun p => .obj c [n1, n2, n3] [e p.1, f p.2.1, g p.2.2]
def eOb4 {α β γ δ : Type} (c : Str) (n1 n2 n3 n4 : Str) (e : α → D) (f : β → D) (g : γ → D) (h : δ → D) : α × β × γ × δ → D := fun p => .obj c [n1, n2, n3, n4] [e p.1, f p.2.1, g p.2.2.1, h p.2.2.2]
def mulR (i j : Int) : Res Int := if mulOk i j = true then .ok (i * j) else .er
def divR (i j : Int) : Res Int := if 0 < j ∧ j.natAbs.log2 < 9000 then .ok (i / j) else if j < 0 ∧ j.natAbs.log2 < 9000 then .ok (-i / -j) else .er
def modR (i j : Int) : Res Int := if 0 < j then .ok (i % j) else .er
def powR (i j : Int) : Res Int := if powOk i j = true then .ok (i ^ j.toNat) else .er
def ixR {α : Type} (xs : List α) (i : Int) : Res α := match atI xs i with
  | some x => .ok x
  | none => .er
def catR {α : Type} (xs ys : List α) : Res (List α) := if szOk (xs.length + ys.length) = true then .ok (xs ++ ys) else .er
def appR {α : Type} (xs : List α) (x : α) : Res (List α) := if szOk (xs.length + 1) = true then .ok (xs ++ [x]) else .er
def repR {α : Type} (xs : List α) (k : Int) : Res (List α) := if repOk xs.length k = true then .ok (List.replicate k.toNat xs).flatten else .er
def setR {α : Type} (xs : List α) (i : Int) (x : α) : Res (List α) := match ixN xs.length i with
  | some k => .ok (xs.set k x)
  | none => .er
def popR {α : Type} (xs : List α) (i : Int) : Res (α × List α) := match ixN xs.length i with
  | some k => (match xs[k]? with
    | some y => if szOk xs.length = true then .ok (y, xs.eraseIdx k) else .er
    | none => .er)
  | none => .er
def pop0R {α : Type} (xs : List α) : Res (α × List α) := match xs[xs.length - 1]? with
  | some y => .ok (y, xs.dropLast)
  | none => .er
def app2R {α : Type} (xs : List (List α)) (i : Int) (x : α) : Res (List (List α)) := match ixN xs.length i with
  | some k => (match xs[k]? with
    | some us => if szOk (us.length + 1) = true then .ok (xs.set k (us ++ [x])) else .er
    | none => .er)
  | none => .er
def rngI (lo : Int) (n : Nat) : List Int := (List.range n).map fun (i : Nat) => lo + (i : Int)
def rngR (j : Int) : Res (List Int) := if rngOk 0 j = true then .ok (rngI 0 j.toNat) else .er
def rng2R (i j : Int) : Res (List Int) := if rngOk i j = true then .ok (rngI i (j - i).toNat) else .er
def enumI {α : Type} (i : Nat) : List α → List (Int × α)
  | [] => []
  | x :: xs => ((i : Int), x) :: enumI (i + 1) xs
def cutN {α : Type} (xs : List α) (lo hi : Option Int) : List α := (xs.drop (HT.sIx xs.length 0 lo)).take (HT.sIx xs.length xs.length hi - HT.sIx xs.length 0 lo)
/-- comprehensions -/
def lcR {α β : Type} (xs : List α) (c : α → Res Bool) (f : α → Res β) : Res (List β) := if szOk xs.length = true then go xs else .er
where go : List α → Res (List β)
  | [] => .ok []
  | x :: xs => (nx (c x)).bind fun b => if b = true then (nx (f x)).bind fun y => (go xs).bind fun ys => .ok (y :: ys) else go xs
def lc2R {α β γ : Type} (xs : List α) (c : α → Res Bool) (i1 : α → Res (List β)) (c1 : α → β → Res Bool) (f : α → β → Res γ) : Res (List γ) := (go xs).bind fun ys => if szOk ys.length = true then .ok ys else .er
where go : List α → Res (List γ)
  | [] => .ok []
  | x :: xs => (nx (c x)).bind fun b => if b = true then (nx (i1 x)).bind fun ys => (lcR.go (c1 x) (f x) ys).bind fun zs => (go xs).bind fun ws => .ok (zs ++ ws) else go xs
/-- loops -/
inductive Ctl (σ β : Type) where
  | go (s : σ) | out (s : σ) | ret (b : β)
def forR {α σ : Type} (f : σ → α → Res σ) : List α → σ → Res σ
  | [], s => .ok s
  | x :: xs, s => (f s x).bind fun s => forR f xs s
/-- with breaks and returns -/
def forC {α σ β : Type} (f : σ → α → Res (Ctl σ β)) : List α → σ → Res (Ctl σ β)
  | [], s => .ok (.go s)
  | x :: xs, s => (f s x).bind fun o => match o with
    | .go s => forC f xs s
    | .out s => .ok (.go s)
    | .ret b => .ok (.ret b)
def whileC {σ β : Type} (c : σ → Res Bool) (f : σ → Res (Ctl σ β)) : Nat → σ → Res (Ctl σ β)
  | 0, _ => .er
  | n + 1, s => (c s).bind fun b => if b = true then (f s).bind fun o => (match o with
    | .go s => whileC c f n s
    | .out s => .ok (.go s)
    | .ret b => .ok (.ret b)) else .ok (.go s)
/-- a loop's end without a return -/
def ctlS {σ β : Type} (o : Ctl σ β) : Res σ := match o with
  | .go s => .ok s
  | .out s => .ok s
  | .ret _ => .er
structure Fin {δ : Type} (K : Res Fl → Res δ) : Prop where
  xc : ∀ c fs ρ, K (.ok (.xc c fs ρ)) = .ex c fs
/-- the slots vs forgotten -/
def fgt (vs : List Nat) (m : Res Fl) : Res Fl := match m with
  | .ok (.nx ρ) => .ok (.nx (wipeD ρ vs))
  | .ok (.bk ρ) => .ok (.bk (wipeD ρ vs))
  | .ok (.ct ρ) => .ok (.ct (wipeD ρ vs))
  | m => m
def fFgt (vs : List Nat) (F : FS) : FS := fun ρ => fgt vs (F ρ)
def finS (vs : List Nat) (m : Res Fl) : Res Fl := match m with
  | .ok (.nx ρ) => .ok (.nx (wipeD ρ vs))
  | .ok (.xc c fs _) => .ex c fs
  | _ => .er
def finL (vs : List Nat) (m : Res Fl) : Res Fl := match m with
  | .ok (.nx ρ) => .ok (.nx (wipeD ρ vs))
  | .ok (.ct ρ) => .ok (.nx (wipeD ρ vs))
  | .ok (.bk ρ) => .ok (.bk (wipeD ρ vs))
  | .ok (.rt d) => .ok (.rt d)
  | .ok (.xc c fs _) => .ex c fs
  | _ => .er
def finF (md : Md) (m : Res Fl) : Res D := match m with
  | .ok (.rt d) => .ok d
  | .ok (.nx _) => if md = .sh then .ok .non else .er
  | .ok (.xc c fs _) => .ex c fs
  | _ => .er
def finI (m : Res Fl) : Res D := match m with
  | .ok (.nx ρ) => (match ρ[0]? with
    | some (some d) => .ok d
    | _ => .er)
  | .ok (.xc c fs _) => .ex c fs
  | _ => .er
theorem fin_S {vs : List Nat} : Fin (finS vs) := ⟨fun _ _ _ => rfl⟩
theorem fin_L {vs : List Nat} : Fin (finL vs) := ⟨fun _ _ _ => rfl⟩
theorem fin_F {md : Md} : Fin (finF md) := ⟨fun _ _ _ => rfl⟩
theorem fin_I : Fin finI := ⟨fun _ _ _ => rfl⟩
section
variable {α β γ δ σ : Type} {K : Res Fl → Res δ} {F G A B C : FS} {ρ ρ' : Env} {N N1 N2 : Res γ} {o : γ → δ} {r : Res α} {E : α → Env} {k : α → Res γ} {c : Env → Res Bool} {b : Bool} {f : Env → Res D} {e : α → D} {v : α} {d : D} {i : Nat}
theorem n_runF {n : Nat} {md : Md} {ds : List D} {e : γ → D} (h : Rf (finF md (F (startE n ds))) N e) : Rf (runF n md F ds) N e := h
theorem n_runI {n : Nat} {cn : Str} {ds : List D} {e : γ → D} (h : Rf (finI (F (some (.obj cn [] []) :: (ds.map some ++ List.replicate (n - 1 - ds.length) none)))) N e) : Rf (runI n cn F ds) N e := h
theorem finS_nx {vs : List Nat} {m : Res Fl} {ρ : Env} (h : finS vs m = .ok (.nx ρ)) : ∃ ρ1, m = .ok (.nx ρ1) ∧ wipeD ρ1 vs = ρ := by
  unfold finS at h
  split at h
  · cases h; exact ⟨_, rfl, rfl⟩
  · cases h
  · cases h
theorem finS_ex {vs : List Nat} {m : Res Fl} {c : Str} {fs : List (Str × D)} (h : finS vs m = .ex c fs) : ∃ ρ1, m = .ok (.xc c fs ρ1) := by
  unfold finS at h
  split at h
  · cases h
  · cases h; exact ⟨_, rfl⟩
  · cases h
theorem t_seq (hK : Fin K) (E : α → Env) (h : Rf (finS [] (F ρ)) r (fun s => .nx (E s))) (hk : ∀ s, Rf (K (G (E s))) (k s) o) : Rf (K (fSeq F G ρ)) (r.bind k) o := by
  cases r with
  | ok s =>
    obtain ⟨ρ1, e1, e2⟩ := finS_nx h
    have e2 : ρ1 = E s := e2
    subst e2
    rw [fSeq_nx e1]
    exact hk s
  | ex c fs =>
    obtain ⟨ρ1, e1⟩ := finS_ex h
    have : fSeq F G ρ = .ok (.xc c fs ρ1) := by unfold fSeq; rw [e1]
    rw [this, hK.xc]
    exact rfl
  | er => exact trivial
theorem t_seqp (ρ' : Env) (h : F ρ = .ok (.nx ρ')) (hk : Rf (K (G ρ')) N o) : Rf (K (fSeq F G ρ)) N o := by rw [fSeq_nx h]; exact hk
theorem t_end (h : Rf (K (fSeq F fNext ρ)) N o) : Rf (K (F ρ)) N o := by
  have : fSeq F fNext ρ = F ρ := by
    unfold fSeq
    split
    · rename_i e; rw [e]; rfl
    · rfl
  rw [this] at h
  exact h
theorem t_assoc (h : Rf (K (fSeq A (fSeq B C) ρ)) N o) : Rf (K (fSeq (fSeq A B) C ρ)) N o := by
  have : fSeq A (fSeq B C) ρ = fSeq (fSeq A B) C ρ := by
    show andThen (A ρ) (fSeq B C) = andThen (andThen (A ρ) B) C
    cases A ρ with
    | ok x => cases x <;> rfl
    | _ => rfl
  rw [this] at h
  exact h
theorem t_nextS (h : Rf (K (G ρ)) N o) : Rf (K (fSeq fNext G ρ)) N o := h
theorem t_next {v : γ} (h : K (.ok (.nx ρ)) = .ok (o v)) : Rf (K (fNext ρ)) (.ok v) o := h
theorem t_brk {v : γ} (h : K (.ok (.bk ρ)) = .ok (o v)) : Rf (K (fSeq fBrk G ρ)) (.ok v) o := h
theorem t_retp {v : γ} {d : D} (hf : f ρ = .ok d) (h : K (.ok (.rt d)) = .ok (o v)) : Rf (K (fSeq (fRet f) G ρ)) (.ok v) o := by
  show K (fSeq (fRet f) G ρ) = _
  have : fSeq (fRet f) G ρ = .ok (.rt d) := by unfold fSeq fRet; rw [hf]; rfl
  rw [this, h]
/-- at a def's level -/
theorem t_retF {md : Md} {e : γ → D} (hf : Rf (f ρ) N e) : Rf (finF md (fSeq (fRet f) G ρ)) N e := by
  cases N with
  | ok v => exact t_retp hf rfl
  | ex c fs =>
    have : fSeq (fRet f) G ρ = .ok (.xc c fs ρ) := by unfold fSeq fRet; rw [show f ρ = _ from hf]; rfl
    rw [this]
    exact rfl
  | er => exact trivial
theorem lift_p {α : Type} {r : Res α} {a : α} {k : α → Res Fl} (h : r = .ok a) : lift r ρ k = k a := by rw [h]; rfl
theorem t_if (hc : c ρ = .ok b) (h1 : Rf (K (fSeq A G ρ)) N1 o) (h2 : Rf (K (fSeq B G ρ)) N2 o) : Rf (K (fSeq (fIfS c A B) G ρ)) (if b = true then N1 else N2) o := by
  have : fSeq (fIfS c A B) G ρ = if b = true then fSeq A G ρ else fSeq B G ρ := by
    show andThen (lift (c ρ) ρ _) G = _
    rw [lift_p hc]
    cases b <;> rfl
  rw [this]
  cases b with
  | true => exact h1
  | false => exact h2
theorem t_ifT (hc : c ρ = .ok true) (h1 : Rf (K (fSeq A G ρ)) N o) : Rf (K (fSeq (fIfS c A B) G ρ)) N o := t_if (N2 := .er) hc h1 trivial
theorem t_ifF (hc : c ρ = .ok false) (h1 : Rf (K (fSeq B G ρ)) N o) : Rf (K (fSeq (fIfS c A B) G ρ)) N o := t_if (N1 := .er) hc trivial h1
theorem t_ifI (hK : Fin K) {rc : Res Bool} (hc : Rf (c ρ) rc (fun x => x)) (h1 : Rf (K (fSeq A G ρ)) N1 o) (h2 : Rf (K (fSeq B G ρ)) N2 o) : Rf (K (fSeq (fIfS c A B) G ρ)) (rc.bind fun b => if b = true then N1 else N2) o := by
  cases rc with
  | ok b => exact t_if hc h1 h2
  | ex cn fs =>
    have : fSeq (fIfS c A B) G ρ = .ok (.xc cn fs ρ) := by
      show andThen (lift (c ρ) ρ _) G = _
      rw [show c ρ = _ from hc]
      rfl
    rw [this, hK.xc]
    exact rfl
  | er => exact trivial
/-- single statements -/
theorem s_if {vs : List Nat} (hF : Rf (finS vs (fSeq F fNext ρ)) N1 o') : Rf (finS [] (fFgt vs F ρ)) N1 o' := by
  have h := t_end hF
  have : finS [] (fFgt vs F ρ) = finS vs (F ρ) := by
    unfold fFgt fgt finS
    cases F ρ with
    | ok x => cases x <;> rfl
    | _ => rfl
  rw [this]
  exact h
theorem s_setp (E : α → Env) (hf : f ρ = .ok (e v)) (hE : ρ.set i (some (e v)) = E v) : Rf (finS [] (fSet i f ρ)) (.ok v) (fun s => .nx (E s)) := by
  show finS [] (lift (f ρ) ρ _) = _
  rw [lift_p hf]
  show Res.ok (Fl.nx (ρ.set i (some (e v)))) = Res.ok (Fl.nx (E v))
  rw [hE]
theorem s_set (E : α → Env) (hf : Rf (f ρ) r e) (hE : ∀ v, ρ.set i (some (e v)) = E v) : Rf (finS [] (fSet i f ρ)) r (fun s => .nx (E s)) := by
  cases r with
  | ok v => exact s_setp E hf (hE v)
  | ex c fs =>
    show finS [] (lift (f ρ) ρ _) = _
    rw [show f ρ = _ from hf]
    rfl
  | er => exact trivial
end
end Da
namespace Da
open PySem PySem.Spec L2
theorem wipe_some {ρ : Env} {i : Nat} {d : D} : ∀ {vs : List Nat}, (wipeD ρ vs)[i]? = some (some d) → ρ[i]? = some (some d)
  | [], h => h
  | v :: vs, h => by
    unfold wipeD at h
    rw [List.getElem?_set] at h
    split at h
    · split at h <;> cases h
    · exact wipe_some h
theorem wipe_len {ρ : Env} : ∀ {vs : List Nat}, (wipeD ρ vs).length = ρ.length
  | [] => rfl
  | v :: vs => by unfold wipeD; rw [List.length_set, wipe_len]
section
variable {K : PySem.W.Frag} {mg : Str → Option Value} {m : Mds} {S0 H0 H : Hp} {σ : L2.St} {ρ : Env} {vs : List Nat}
theorem StM.wipe (h : StM K mg m S0 H0 σ ρ H) : StM K mg m S0 H0 σ (wipeD ρ vs) H := by
  obtain ⟨S, F, h1, h2, h3⟩ := h
  exact ⟨S, F, h1, ⟨by rw [wipe_len]; exact h2.len, fun i d e => h2.at_ i d (wipe_some e), fun i d e => h2.nd i d (wipe_some e), fun i j d e n a b => h2.apart i j d e n (wipe_some a) (wipe_some b)⟩, fun i d e => h3 i d (wipe_some e)⟩
theorem spost_fgt {E : WX} {L : Lp} {m' : Mds} {o : Res Fl} {Dn : Ends} (h : SPost K mg E L S0 H0 m' (fgt vs o) Dn) : SPost K mg E L S0 H0 m' o Dn := by
  cases o with
  | ok o =>
    cases o with
    | nx ρ => exact fun σ H s => h σ H s.wipe
    | bk ρ => exact fun σ H s => h σ H s.wipe
    | ct ρ => exact fun σ H s => h σ H s.wipe
    | rt d => exact h
    | xc c fs ρ => exact h
  | ex c fs => exact h
  | er => exact h
end
section
variable {X : Cx} {E : WX} {L : Lp} {m m' : Mds} {st : Stmt} {sts : List Stmt} {F : FS}
theorem js_fgt (vs : List Nat) (h : JS X E L m m' st F) : JS X E L m m' st (fFgt vs F) :=
  ⟨PSimp h.ps fun D σ H q => by
    obtain ⟨S0, H0, ρ, a, b⟩ := q
    exact ⟨S0, H0, ρ, a, spost_fgt b⟩⟩
theorem jss_fgt (vs : List Nat) (h : JSs X E L m m' sts F) : JSs X E L m m' sts (fFgt vs F) :=
  ⟨PSsimp h.ps fun D σ H q => by
    obtain ⟨S0, H0, ρ, a, b⟩ := q
    exact ⟨S0, H0, ρ, a, spost_fgt b⟩⟩
end
end Da
namespace Da
open PySem PySem.Spec L2
def veT : List Value := [.type "ValueError", .type "Exception", .type "BaseException", .type "object"]
/-- an own error class without an __init__ -/
def Err0 (K : PySem.W.Frag) (mg : Str → Option Value) (x : Str) : Prop := ∃ C, mg x = some (.ref C) ∧ PySem.W.excIn K C veT "ValueError.__new__" = true ∧ PySem.W.keepIn K (.ref C) = true ∧
  PySem.W.subIn K (.ref C) (.type "BaseException") = some true ∧ PySem.W.typeIn K (.ref C) = some (.type "type")
/-- raise c(..): the fields stand in the reverse of their order -/
def fRaise (c : Str) (ns : List Str) (fs : Env → Res (List D)) : FS := fun ρ => lift (fs ρ) ρ fun ds => if ds.length = ns.length then .ok (.xc c (ns.zip ds).reverse ρ) else .er
section
variable {X : Cx} {E : WX} {L : Lp} {m m' : Mds} {c : Str} {p pos p1 : Pos}
theorem pmk_none (T : Err0 X.K X.mg c) (hg : Gl X c) (hdb : (c == ("__debug__" : Str)) = false) : PMk X (.Call (.Name c p) [] [] pos) (fun _ H Q => ∀ C, X.mg c = some (.ref C) → Q (.ref C) none H) := by
  obtain ⟨C, gC, q, kC, e1, e2⟩ := T
  intro pins s σ H Q I h
  have rr : Raises X (.ref C) := raises_own e1 e2
  apply wpAny_Call_Name_kw
  refine ld_glob I hg gC ?_ hdb
  refine PySem.W.callWith_K0 I.kIn kC ?_
  show wpAny _ _ (call (.ref C) []) _ _ _
  obtain ⟨b1, b2, b3, b4, b5, b6, b7, b8, b9, b10, b11, b12, b13, b14, b15, b16, b17, o1, o2, o3, o4⟩ := exc_obj I.kIn q
  exact wpAny_call_exc_subT PySem.F.excBase_ValueError o4 o1 o2 o3 (fun h' e made => mk_of I made rr (h C gC) (I.hok.gone made.new)) (Nat.zero_le _)
theorem js_raise0 (T : Err0 X.K X.mg c) (tk : Takes X E) (hc : X.calm = true := by rfl) (hg : Gl X c := by rfl) (hdb : (c == ("__debug__" : Str)) = false := by decide) :
    JS X E L m m' (.Raise (some (.Call (.Name c p) [] [] p1)) none pos) (fRaise c [] fA0) := by
  refine ⟨PSimp (ps_raise hc tk (pmk_none T hg hdb)) fun D σ H h => ?_⟩
  obtain ⟨S0, H0, ρ, ⟨S, Fp, st⟩, q⟩ := h
  intro C gC
  obtain ⟨S2, F2, st2, ss⟩ := st.weak (Weak.nil m)
  exact q σ S2 F2 H _ none st2 ⟨gC, .inl ⟨rfl, rfl⟩⟩
end
def tInit (K : PySem.W.Frag) : List (Str × Nat) → TS
  | [] => tNext
  | q :: r => tSeq (tOst K q.1 (tVar 0) (tVar q.2)) (tInit K r)
/-- the error at a, with the fields acc stored so far -/
def Made (a C : Addr) (H0 : Hp) (acc : List (Str × V)) (H : Hp) : Prop := (acc = [] ∧ H = H0 ∧ H0 a = some (exo a C none)) ∨ ∃ d, H0 d = none ∧ d ≠ a ∧ H = upd (upd H0 d (exd d acc)) a (exo a C (some d))
theorem upd_twice {H : Hp} {a : Addr} {o u : HO} : upd (upd H a o) a u = upd H a u := by
  funext b
  by_cases h : b = a
  · rw [h, upd_same, upd_same]
  · rw [upd_ne h, upd_ne h, upd_ne h]
theorem upd_swap {H : Hp} {a b : Addr} {o u : HO} (h : a ≠ b) : upd (upd H a o) b u = upd (upd H b u) a o := by
  funext x
  by_cases hb : x = b
  · subst hb
    rw [upd_same, upd_ne (fun z => h z.symm), upd_same]
  · rw [upd_ne hb]
    by_cases ha : x = a
    · subst ha; rw [upd_same, upd_same]
    · rw [upd_ne ha, upd_ne ha, upd_ne hb]
theorem init_run {K : PySem.W.Frag} {a C : Addr} {σ : L2.St} {D : Ends} {H0 : Hp} (T : OexC K C) (hσ : σ[0]? = some (some (.ref a))) : ∀ (fj : List (Str × Nat)) (ys : List V) (acc : List (Str × V)) (H : Hp), fj.length = ys.length →
    (∀ (k : Nat) (q : Str × Nat) (y : V), fj[k]? = some q → ys[k]? = some y → σ[q.2]? = some (some y)) → (∀ q ∈ fj, PySem.W.findIn K (.ref C) q.1 = some none) → acc.length + fj.length ≤ 900 → Made a C H0 acc H →
    (∀ H', Made a C H0 (((fj.map (·.1)).zip ys).reverse ++ acc) H' → D.nx σ H') → tInit K fj D σ H
  | [], ys, acc, H, hl, hy, hn, hz, hm, k => k H hm
  | q :: r, [], acc, H, hl, hy, hn, hz, hm, k => by cases hl
  | q :: r, y :: ys, acc, H, hl, hy, hn, hz, hm, k => by
    have go : ∀ H', Made a C H0 ((q.1, y) :: acc) H' → tInit K r D σ H' := fun H' m' => by
      refine init_run T hσ r ys _ H' (by simpa using hl) (fun k' q' y' a b => hy (k' + 1) q' y' (by simpa using a) (by simpa using b)) (fun q' h' => hn q' (List.mem_cons_of_mem _ h')) (by simp at hz ⊢; omega) m' fun H2 m2 => k H2 ?_
      simpa using m2
    refine ⟨y, hy 0 q y rfl rfl, .ref a, hσ, a, C, rfl, T, hn q List.mem_cons_self, ?_⟩
    rcases hm with ⟨e1, e2, e3⟩ | ⟨d, e1, e2, e3⟩
    · subst e1; subst e2
      exact .inl ⟨e3, fun dx hd hne => go _ (.inr ⟨dx, hd, hne, rfl⟩)⟩
    · subst e3
      refine .inr ⟨d, acc, upd_same, by rw [upd_ne e2]; exact upd_same, by simp at hz; omega, go _ (.inr ⟨d, e1, e2, ?_⟩)⟩
      rw [upd_swap (fun z => e2 z.symm), upd_twice]
/-- what such an __init__ promises -/
def spX (K : PySem.W.Frag) (C : Addr) (ns : List Str) : Sp := fun vs H Q _ => ∃ a us, vs = .ref a :: us ∧ us.length = ns.length ∧ H a = some (exo a C none) ∧ ∀ d, H d = none → d ≠ a → Q .non (upd (upd H d (exd d (ns.zip us).reverse)) a (exo a C (some d)))
/-- an own error class with such an __init__ -/
def ErrN (P : Program) (w : World) (K : PySem.W.Frag) (mg : Str → Option Value) (base : Heap) (x : Str) (k : Nat) (ns : List Str) : Prop := ∃ C fI fd ps, mg x = some (.ref C) ∧ OexC K C ∧
  PySem.W.findIn K (.ref C) "__init__" = some (some (.ref fI)) ∧ PySem.W.typeIn K (.ref fI) = some (.type "function") ∧ Binds K fd ps [] ∧ FnOk P w K mg base (L2.CX P w) k fI fd ps (spX K C ns)
def ErrAt (K : PySem.W.Frag) (mg : Str → Option Value) (x qual : Str) (st : Stmt) (ps ns : List Str) : Prop := ∃ C fI fd, mg x = some (.ref C) ∧ OexC K C ∧
  PySem.W.findIn K (.ref C) "__init__" = some (some (.ref fI)) ∧ PySem.W.typeIn K (.ref fI) = some (.type "function") ∧ Fun K "__init__" qual st fI fd ∧ Binds K fd ps [] ∧ ∀ f ∈ ns, PySem.W.findIn K (.ref C) f = some none
section
variable {P : Program} {w : World} {K : PySem.W.Frag} {mg : Str → Option Value} {base h : Heap} {x qual : Str} {st : Stmt} {ps ns N : List Str} {k : Nat}
theorem errN_of {fj : List (Str × Nat)} (dA : ErrAt K mg x qual st ps ns) (Sc : FnScope N ps (defScope st)) (hns : fj.map (·.1) = ns) (hj : fj.map (·.2) = (List.range ns.length).map (· + 1)) (hps : ps.length = ns.length + 1) (hN : N.length = ps.length) (h0 : ns ≠ []) (hz : ns.length ≤ 900)
    (h : ∀ (f : Addr) (cdv : Value) (A : Around) (outer : List PySem.Env) (s : Shared) (H : Hp) (E : XK), PSs (cxOf (L2.CX P w) P w K mg base N qual (defScope st) f cdv A outer s H E) (defBody st) (tInit K fj)) : ErrN P w K mg base x (k + 1) ns := by
  obtain ⟨C, fI, fd, hC, T, i1, i2, Fn, bd, hf⟩ := dA
  refine ⟨C, fI, fd, ps, hC, T, i1, i2, bd, Fn.okX Sc (fun vs H Q E hsp => ?_) (fun cdv A outer s H vs Q E hr hsp => ⟨_, h fI cdv A outer s H E, ?_⟩)⟩
  · obtain ⟨a, us, rfl, e, _⟩ := hsp
    rw [List.length_cons, e, hps]
  · obtain ⟨a, us, rfl, e, ea, q⟩ := hsp
    have hfl : fj.length = ns.length := by rw [← hns, List.length_map]
    have hst : L2.start N (.ref a :: us) = (V.ref a :: us).map some := by
      unfold L2.start
      rw [show N.length - (V.ref a :: us).length = 0 from by rw [hN, hps, List.length_cons, e]; omega]
      simp
    refine init_run T (by rw [hst]; rfl) fj us [] H (by rw [hfl, e]) (fun k' q' y a1 a2 => ?_) (fun q' hq => hf _ (by rw [← hns]; exact List.mem_map_of_mem hq)) (by rw [hfl]; simpa using hz) (.inl ⟨rfl, rfl, ea⟩) fun H' m' => ?_
    · have : (fj.map (·.2))[k']? = some q'.2 := by rw [List.getElem?_map, a1]; rfl
      rw [hj, List.getElem?_map] at this
      have hk : k' < ns.length := by rw [← hfl]; exact (List.getElem?_eq_some_iff.mp a1).1
      rw [List.getElem?_range hk] at this
      have e2 : k' + 1 = q'.2 := by simpa using this
      rw [← e2, hst, List.getElem?_map, List.getElem?_cons_succ, a2]
      rfl
    · rw [List.append_nil] at m'
      rcases m' with ⟨z, _, _⟩ | ⟨d, e1, e2, e3⟩
      · exfalso
        have := congrArg List.length z
        rw [List.length_reverse, List.length_zip, List.length_map, hfl, e, Nat.min_self, List.length_nil] at this
        exact h0 (List.length_eq_zero_iff.mp this)
      · rw [e3, hns]
        exact q d e1 e2
theorem errAt_mk {C f : Addr} {oc : Value} {od an : Option Addr} {osl : Array (Option Value)} {kV doc pm cdv ct : Value} {nm q : Str} {Nx : Addr} {bs bm : List Value} {sn sub ab col : _} {dd : _} {k0 k1 k2 k3 k5 : _} (X : K.In h) (G : h.Ns mainGlobals mg) (a : PySem.W.nsIn K mainGlobals x = some (some (.ref C)))
    (e1 : K.lookup C = some (excClassObj nm q C Nx bs bm true sn sub ab col dd k0 k1 k2 k3 k5 "ValueError.__new__")) (e2 : PySem.HandSPX.refsVE bm = true) (e3 : PySem.W.findIn K (.ref C) "__setattr__" = some (some (.builtin "object.__setattr__"))) (e4 : PySem.W.subIn K (.ref C) (.type "BaseException") = some true)
    (e5 : PySem.W.typeIn K (.ref C) = some (.type "type")) (e6 : PySem.W.keepIn K (.ref C) = true) (m2 : PySem.W.findIn K (.ref C) "__init__" = some (some (.ref f))) (m3 : PySem.W.typeIn K (.ref f) = some (.type "function"))
    (l : K.lookup f = some ⟨oc, od, .func (PySem.W.fnOf "__init__" qual (defArgs st) (defBody st) (defScope st) .none kV doc pm an cdv ct), osl⟩) (cd : PySem.W.codeIn K cdv qual = true) (kf : PySem.W.keepIn K (.ref f) = true)
    (hb : ∀ (kV doc pm : Value) (an : Option Addr) (cdv ct : Value) (us : List Value), us.length = ps.length → bindArgs (PySem.W.fnOf "__init__" qual (defArgs st) (defBody st) (defScope st) .none kV doc pm an cdv ct) ⟨us, []⟩ = pure (ps.zip us))
    (hf : ∀ g ∈ ns, PySem.W.findIn K (.ref C) g = some none) : ErrAt K mg x qual st ps ns := by
  have Fn := fun_mk (st := st) l cd kf
  exact ⟨C, f, _, PySem.W.mg_of X G a, ⟨⟨_, _, _, _, _, _, _, _, _, _, _, _, _, _, _, e1, e2⟩, e3, e4, e5, e6⟩, m2, m3, Fn, Fn.binds hb, hf⟩
end
theorem RepL.rev {K : PySem.W.Frag} {mg : Str → Option Value} {S : Hp} {vs : List V} {ds : List D} (r : RepL K mg S vs ds) : RepL K mg S vs.reverse ds.reverse := by
  refine ⟨by rw [List.length_reverse, List.length_reverse, r.len], fun i v d a b => ?_⟩
  have hi : i < vs.length := by simpa using (List.getElem?_eq_some_iff.mp a).1
  rw [List.getElem?_reverse hi] at a
  rw [List.getElem?_reverse (by rw [← r.len]; exact hi), ← r.len] at b
  exact r.at_ _ v d a b
section
variable {X : Cx} {E : WX} {L : Lp} {m m' : Mds} {c : Str} {ns : List Str} {k : Nat} {p pos p1 : Pos} {e : Expr} {es : List Expr} {fs : Env → Res (List D)}
theorem js_raiseN (T : ErrN X.prog X.w X.K X.mg X.base c k ns) (hr : Room (k + 1) X.A) (tk : Takes X E) (ha : JA X E m (e :: es) fs) (hz : ns.length ≤ 900 := by decide) (hc : X.calm = true := by rfl) (hg : Gl X c := by rfl) (hdb : (c == ("__debug__" : Str)) = false := by decide)
    (he : starEach (e :: es) X.env = (false, eval e X.env) :: starEach es X.env := by rfl) (hpl : (backTo p1 (starEach es X.env)).any (·.1) = false := by rfl) :
    JS X E L m m' (.Raise (some (.Call (.Name c p) (e :: es) [] p1)) none pos) (fRaise c ns fs) := by
  obtain ⟨C, fI, fd, ps, gC, oC, i1, i2, bd, G⟩ := T
  have hx : Passes (L2.CX X.prog X.w) X (fun _ _ _ => False) := fun _ _ _ _ _ _ _ z => by
    obtain ⟨_, _, _, _, _, _, _, _, _, _, _, _, hE⟩ := z
    exact hE.elim
  refine ⟨PSimp (ps_raise hc tk (pmk_oex oC i1 i2 G hr bd .nil hx hg gC ha.pa hdb he hpl)) fun D σ H h => ?_⟩
  obtain ⟨S0, H0, ρ, ⟨S, Fp, st⟩, q⟩ := h
  refine ⟨S, ρ, st.envM, (lift_post st q).imp fun ds S1 H1 s1 q1 vs rs => ?_⟩
  split at q1
  · rename_i hl
    refine ⟨by rw [rs.len, hl]; exact Nat.le_trans hz (by decide), fun a na => ⟨a, vs, by rw [List.append_nil], by rw [rs.len, hl], upd_same, fun d nd hne => ?_⟩⟩
    have nd1 : H1 d = none := by rw [upd_ne hne] at nd; exact nd
    refine ⟨rfl, d, (ns.zip vs).reverse, upd_same, by rw [upd_ne hne]; exact upd_same, nd1, ?_⟩
    have eh : upd (del (upd (upd (upd H1 a (exo a C none)) d (exd d (ns.zip vs).reverse)) a (exo a C (some d))) a) d (.xd (ns.zip vs).reverse) = upd H1 d (.xd (ns.zip vs).reverse) := by
      funext b
      by_cases hb : b = d
      · rw [hb, upd_same, upd_same]
      · rw [upd_ne hb, upd_ne hb]
        by_cases hb2 : b = a
        · rw [hb2, del_same, na]
        · rw [del_ne hb2, upd_ne hb2, upd_ne hb, upd_ne hb2]
    rw [eh]
    have s2 := Step.laid (o := .xd (ns.zip vs).reverse) s1.sub nd1
    obtain ⟨S3, F3, st3, ss⟩ := ((st.step s1).step s2).weak (Weak.nil m)
    refine q1 σ S3 F3 _ _ (some d) st3 ⟨gC, .inr ⟨d, (ns.zip vs).reverse, rfl, ss _ _ upd_same, ?_, ?_⟩⟩
    · rw [List.map_reverse, List.map_reverse, List.map_fst_zip (by rw [rs.len, hl]; exact Nat.le_refl _), List.map_fst_zip (by rw [hl]; exact Nat.le_refl _)]
    · rw [List.map_reverse, List.map_reverse, List.map_snd_zip (by rw [rs.len, hl]; exact Nat.le_refl _), List.map_snd_zip (by rw [hl]; exact Nat.le_refl _)]
      exact (rs.mono (s2.ss.trans ss)).rev
  · exact q1.elim
end
end Da
namespace Da
open PySem PySem.Spec L2
/-- of the classes in l it is known whether a clause, an isinstance takes them -/
def askOf (l : List (Str × Bool)) (c : Str) : Option Bool := l.lookup c
/-- an error class whose errors may be asked -/
def ErrC (K : PySem.W.Frag) (mg : Str → Option Value) (c : Str) : Prop := ∃ C, mg c = some (.ref C) ∧ ExcC K C
theorem errF {K : PySem.W.Frag} {C : Addr} {f : Str} {fs : List Str} (h : PySem.W.findIn K (.ref C) f = some none) (t : ∀ g ∈ fs, PySem.W.findIn K (.ref C) g = some none) : ∀ g ∈ f :: fs, PySem.W.findIn K (.ref C) g = some none := fun g hg => by
  rcases List.mem_cons.mp hg with rfl | z
  · exact h
  · exact t g z
def ErrsC (K : PySem.W.Frag) (mg : Str → Option Value) (cs : List Str) : Prop := ∀ c ∈ cs, ErrC K mg c
theorem err0_mk {K : PySem.W.Frag} {mg : Str → Option Value} {x : Str} {C : Addr} (h : mg x = some (.ref C)) (e1 : PySem.W.excIn K C veT "ValueError.__new__" = true) (e2 : PySem.W.keepIn K (.ref C) = true) (e3 : PySem.W.subIn K (.ref C) (.type "BaseException") = some true) (e4 : PySem.W.typeIn K (.ref C) = some (.type "type")) : Err0 K mg x := ⟨C, h, e1, e2, e3, e4⟩
section
variable {X : Cx} {E : WX} {m : Mds} {l : List (Str × Bool)} {a : Addr} {oe : Obj} {cls : Value} {d : Option Addr} {pn : List (Addr × Obj)} {n y : Str} {p p1 p2 pos : Pos} {cs : List Str}
theorem ErrsC.of (h : ErrsC X.K X.mg cs) (e : l.all (fun q => cs.contains q.1) = true) : ∀ q ∈ l, ErrC X.K X.mg q.1 := fun q hq => h _ (by
  have := List.all_eq_true.mp e q hq
  simpa using this)
end
end Da
namespace Da
open PySem PySem.Spec L2
section
variable {X : Cx} {pins : List (Addr × Obj)} {σ : L2.St} {H : Hp} {s : Shared} {E : Value → Shared → Prop}
/-- set.add of a tuple of ints -/
theorem addT_ok {D t : Addr} {ls : List (Addr × List Int)} {k : List Int} {Q : Value → Shared → Prop} (hu : X.A.units + 64 < cLine) (I : Inv X pins σ H s) (hD : H D = some (SetTO X.prog X.w D ls))
    (hL : ∀ p ∈ ls, SqT X.K H p.1 (p.2.map V.int)) (ht : SqT X.K H t (k.map V.int)) (room : ls.length + 1 < 64)
    (h : ∀ s' ls', Inv X pins σ (upd H D (SetTO X.prog X.w D ls')) s' → (k ∈ ls.map (·.2) → ls' = ls) → (k ∉ ls.map (·.2) → ls'.Perm ((t, k) :: ls)) → Q .none s') :
    wpAny (model X.prog X.w) X.A (call (.builtin "set.add") [.ref D, .ref t]) Q E s := by
  have R0 : SetT0 X.prog X.w s.heap D ls := (I.hok D _ hD).1
  obtain ⟨es, ep, tb, R⟩ := R0.full fun p hp => I.isT (hL p hp)
  have hx := I.isT ht
  obtain ⟨ob, hob, hex, hdt⟩ := R.ob
  have hu1 : X.A.in1.units < cLine := by show X.A.units + 1 < cLine; omega
  refine wpAny_call_entry F.slot_set_add ⟨ob, hob, hex.1⟩ F.entry_set_add ?_ (F.args_set_add_2 _ _)
  unfold Builtin.«set.add» Builtin.Frozenset.oneOther
  simp only [List.isEmpty_nil, bind_assoc]
  unfold Builtin.Frozenset.addrOf setAdd
  refine wpAny_bind (wpAny_pure ?_)
  try dsimp only
  refine wpAny_bind (wpAny_pure ?_)
  try dsimp only
  refine wpAny_bind ?_
  refine wpAny_holding ?_
  refine wpAny_bind (wpAny_pyHash_tuple hu1 hx ?_)
  refine add_at (A := X.A.in1) (s := { s with toks := s.toks + (k.length + 1) }) R hx hu1 room fun b h' ls' es' ep' tb' sb R' c1 c2 => ?_
  have J : Inv X pins σ (upd H D (SetTO X.prog X.w D ls')) { s with heap := h', toks := s.toks + (k.length + 1) } := by
    obtain ⟨ob', hob', _⟩ := R'.ob
    exact I.write (e := D) (t' := s.toks + (k.length + 1)) (by rw [hD]; trivial) (.inl rfl) (fun b u hb hu => (sb.2 b hb).trans hu) ⟨ob', hob'⟩ (setTO_new R'.t0)
  show wpAny _ _ (ret Value.none) _ _ _
  exact wpAny_pure ⟨_, rfl, h _ ls' J c1 c2⟩
end
section
variable {X : Cx}
/-- {elt for target in iter if ..}: D the new set, its members rows of ints -/
def tSet (K : PySem.W.Frag) (P : Program) (w : World) (wi : TI) (g : TG) (tt : TT) (te : TE) (vs : List Nat) : TE := fun σ H Q => wi σ H fun J H1 => ∀ D, H1 D = none →
  ∃ W : Nat → Nat → Hp → Prop, (∃ m, W 0 m (upd H1 D (SetTO P w D []))) ∧ ∀ i m H, W i m H → (J.stop i H ∧ Q (.ref D) H) ∨
    (J.go i H ∧ ∃ Nx : Hp → Prop, (∀ H', Nx H' → ∃ m', m' < m ∧ W (i + 1) m' H') ∧ ∀ x H', J.yld i H x H' → g x (wipe σ vs) H' fun σ2 H2 => wipe σ2 vs = wipe σ vs ∧ tt σ2 H2 fun b H3 =>
      if b = true then te σ2 H3 fun y H4 => ∃ (t : Addr) (k : List Int) (ls : List (Addr × List Int)), y = .ref t ∧ SqT K H4 t (k.map V.int) ∧ H4 D = some (SetTO P w D ls) ∧ (∀ p ∈ ls, SqT K H4 p.1 (p.2.map V.int)) ∧ ls.length + 1 < 64 ∧
        ∀ ls', (k ∈ ls.map (·.2) → ls' = ls) → (k ∉ ls.map (·.2) → ls'.Perm ((t, k) :: ls)) → Nx (upd H4 D (SetTO P w D ls'))
      else Nx H3)
theorem set_fresh {P : Program} {w : World} {h : Heap} : SetT0 P w (h.push { cls := .type "set", dict := none, data := .set #[] 0 (.fresh 0 0 (!w.params.followText "set-order")) }) h.objs.size [] :=
  (setTR_fresh (Heap.get?_push_size _ rfl)).t0
theorem pe_setT {elt tg iter : Expr} {ifs : List Expr} {scope : Scope} {own : List (PySem.Str × Nat)} {pos : Pos} {wi : TI} {g : TG} {tt : TT} {te : TE} (hu : X.A.units + 164 < cLine) (hc : X.calm = true) (hN : X.N.Nodup) (hi : PI X tg iter wi) (ok : BlkOk X.N X.env.scope scope own)
    (hg : ∀ (s : Shared) (H : Hp) (C : Addr) (cl : List (PySem.Str × Addr)) (fp : List Addr), PG (X.blk s H scope (compEnvC scope cl C X.env) fp) tg g)
    (ht : ∀ (s : Shared) (H : Hp) (C : Addr) (cl : List (PySem.Str × Addr)) (fp : List Addr), PTs (X.blk s H scope (compEnvC scope cl C X.env) fp) ifs tt)
    (he : ∀ (s : Shared) (H : Hp) (C : Addr) (cl : List (PySem.Str × Addr)) (fp : List Addr), PE (X.blk s H scope (compEnvC scope cl C X.env) fp) elt te)
    (hs : ∀ x, foldedSetIterable iter X.env x = pure x := by intro _; rfl) :
    PE X (.SetComp elt [⟨tg, iter, ifs, 0⟩] scope pos) (tSet X.K X.prog X.w wi g tt te (own.map (·.2))) := by
  refine ⟨fun pins s σ H Q I h => ?_⟩
  rw [PpSet.eval_SetComp]
  have free : ∀ y ∈ scope.names, y.2 = .free → ∃ c, X.env.cells.lookup y.1 = some c := fun y hy e => (ok.free y hy e).elim (fun k => I.ok.has _ (.inl k)) (fun k => I.ok.has _ (.inr k))
  refine wpAny_comprehension_free rfl hs (closure_ok free) ok.kind (fun y hy e => by rw [ok.uniq y hy, e]) ?_
  refine thn (hi.run pins s σ H _ I h) fun xv s1 hx => ?_
  refine thn hx fun itv s2 h2 => ?_
  obtain ⟨it, fp, tn, J, H2, e, I2, T, st2, f2, q⟩ := h2
  subst e
  refine PpSet.newSet_ok (newEnv_comp ?_)
  generalize hD : s2.heap.objs.size = D
  obtain ⟨W, ⟨m0, w0⟩, turn⟩ := q D (I2.hok.fresh (Nat.le_of_eq hD))
  let nw : Obj := { cls := .type "set", dict := none, data := .set #[] 0 (.fresh 0 0 (!X.w.params.followText "set-order")) }
  generalize hs3 : ({ s2 with heap := s2.heap.push nw } : Shared) = s3
  have h3 : s3.heap = s2.heap.push nw := by rw [← hs3]
  have keep3 : ∀ b o, s2.heap.get? b = some o → s3.heap.get? b = some o := fun b o e => by rw [h3]; exact Heap.get?_push_of_some _ e
  have I3 : Inv X pins σ (upd H2 D (SetTO X.prog X.w D [])) s3 := by
    rw [← hs3]
    refine I2.laid (t' := s2.toks) (fun b o e => Heap.get?_push_of_some _ e) (Nat.le_of_eq hD) ?_
    rw [← hD]
    exact setTO_new set_fresh
  have f3 : ∀ b ∈ fp, FpOk X pins (upd H2 D (SetTO X.prog X.w D [])) b ∧ b < s3.heap.objs.size := fun b hb => by
    have hlt : b < s2.heap.objs.size := by
      obtain ⟨o, e, _⟩ := T.obj _ _ st2 b hb
      exact Heap.lt_size e
    refine ⟨⟨?_, (f2 b hb).2⟩, by rw [h3, Heap.size_push]; exact Nat.lt_succ_of_lt hlt⟩
    have hne : b ≠ D := by rw [← hD]; exact Nat.ne_of_lt hlt
    rw [upd_ne hne]
    exact (f2 b hb).1
  have st3 : tn 0 s3.heap := T.keep _ _ _ st2 fun b _ o e => keep3 b o e
  have I4 := block_start I3 ok hN f3
  generalize hH3 : upd H2 D (SetTO X.prog X.w D []) = H3 at I3 I4 w0 f3
  generalize hcl : cellsFrom (s3.heap.objs.size + 1) scope.names (cloFrom X.env.cells scope.names []) = cl at I4
  have pg := hg s3 H3 s3.heap.objs.size cl fp
  have pt := ht s3 H3 s3.heap.objs.size cl fp
  have pe := he s3 H3 s3.heap.objs.size cl fp
  show codeAny _ _ (.compStart (.SetComp elt [⟨tg, iter, ifs, 0⟩] scope pos) 0 (.ref it) (.ref D) (compEnvC scope cl s3.heap.objs.size X.env)) (compPost (model X.prog X.w) X.A X.xe none (EP X pins σ Q) (.ref D) s3.heap.objs.size) { s3 with heap := pushCells (s3.heap.push { cls := .type "dict", data := .dict #[] }) scope.names }
  have nfp : ∀ b ∈ fp, H3 b = none := fun b hb => (f3 b hb).1.1
  generalize hce : compEnvC scope cl s3.heap.objs.size X.env = ce at I4 pg pt pe ⊢
  have cL : ce.locals = s3.heap.objs.size := by rw [← hce]; rfl
  generalize hs4 : ({ s3 with heap := pushCells (s3.heap.push { cls := .type "dict", data := .dict #[] }) scope.names } : Shared) = s4 at I4 ⊢
  have st4 : tn 0 s4.heap := T.keep _ _ _ st3 fun b _ o e => by rw [← hs4]; exact pushCells_keeps _ _ _ _ (Heap.get?_push_of_some _ e)
  have stat : ∀ {σ' : L2.St} {H' : Hp} {s' : Shared}, Inv (X.blk s3 H3 scope ce fp) [] σ' H' s' → (∀ b ∈ fp, H' b = none) → ∀ b ∈ fp, FpOk (X.blk s3 H3 scope ce fp) [] H' b := fun {σ' H' s'} I' hn b hb =>
    ⟨hn b hb, (I'.ok.exf b hb).1, I'.ok.exfs b hb, .inl hb, fun x c e => (I'.ok.exf b hb).2 x c e, fun p hp => nomatch (show p ∈ ([] : List (Addr × Obj)) from hp)⟩
  have hub : (X.blk s3 H3 scope ce fp).A.units + 64 < cLine := by show X.A.units + 64 < cLine; omega
  have loop : codeAny (model X.prog X.w) X.A (.compLoop (.SetComp elt [⟨tg, iter, ifs, 0⟩] scope pos) 0 (.ref it) (.ref D) ce) (compPost (model X.prog X.w) X.A X.xe none (EP X pins σ Q) (.ref D) s3.heap.objs.size) s4 := by
    refine PpSet.compLoopS_any (fun n s' => ∃ i H', Inv (X.blk s3 H3 scope ce fp) [] (wipe σ (own.map (·.2))) H' s' ∧ tn i s'.heap ∧ (∀ b ∈ fp, H' b = none) ∧ W i n H') ?_ m0 ⟨0, H3, I4, st4, nfp, w0⟩
    rintro n s5 ⟨i, H5, I5, st5, n5, w5⟩
    rcases turn i n H5 w5 with ⟨stop, qq⟩ | ⟨go, Nx, hNx, step⟩
    · refine thnF (T.done (X.blk s3 H3 scope ce fp) rfl rfl rfl hc i [] s5 _ H5 (fun _ _ => False) I5 (stat I5 n5) st5 stop) fun r s6 ⟨hr, I6⟩ => ?_
      subst hr
      have I7 : Inv X pins σ H5 s6 := I3.call' (ch := fp) I6.os I6.base I6.hok I6.bare fun b hb => by
        obtain ⟨y0, y1, y2, y3, y4, y5⟩ := (f3 b hb).1
        exact ⟨y3, y1, y4, y5⟩
      have nC : H5 s3.heap.objs.size = none := by
        rw [← cL]
        exact I6.free
      obtain ⟨m, hn, _⟩ := I6.loc
      have hn : s6.heap.Ns ce.locals m := hn
      rw [cL] at hn
      obtain ⟨k0, k1, k2, k3, k4, k5⟩ := I3.fpOk (Nat.le_refl _) nC
      exact ⟨m, hn, fun h'' sb => ⟨.ref D, H5, I7.turned (t' := s6.toks) (fun b o hb e => (sb.2 b hb).trans e) k0 k1 k3 k4 k5, rfl, qq⟩⟩
    · refine thnF (T.item (X.blk s3 H3 scope ce fp) rfl rfl rfl hc i [] s5 _ H5 (fun _ _ => False) I5 (stat I5 n5) st5 go) fun r s6 ⟨u, hr, h6⟩ => ?_
      subst hr
      refine thnF h6 fun _ s7 ⟨x, H7, I7, r7, y7, st7, n7⟩ => ?_
      have P7 := I7.pinned (stat I7 n7) (T.obj _ _ st7)
      refine thnF (pg.run _ s7 _ H7 x u _ P7 r7 (step x H7 y7)) fun _ s8 ⟨σ8, H8, I8, hw8, q8⟩ => ?_
      refine thnF (pt.run _ s8 σ8 H8 _ I8 q8) fun b s9 ⟨H9, I9, q9⟩ => ?_
      have fin : ∀ {s' : Shared} {H' : Hp}, Inv (X.blk s3 H3 scope ce fp) ([] ++ pinsAt fp s7.heap) σ8 H' s' → Nx H' → ∃ m, m < n ∧ ∃ i H', Inv (X.blk s3 H3 scope ce fp) [] (wipe σ (own.map (·.2))) H' s' ∧ tn i s'.heap ∧ (∀ b ∈ fp, H' b = none) ∧ W i m H' := fun {s' H'} I' nx => by
        obtain ⟨m', hm, w'⟩ := hNx H' nx
        have pin' : ∀ b ∈ fp, ∀ o, s7.heap.get? b = some o → s'.heap.get? b = some o ∧ H' b = none := fun b hb o e => by
          have z := I'.pin (b, o) (List.mem_append_right _ (List.mem_append_right _ (mem_pinsAt hb e)))
          exact ⟨z.1, z.2.1⟩
        have hl : (wipe σ (own.map (·.2))).length = σ8.length := by rw [← hw8, wipe_length]
        refine ⟨m', hm, i + 1, H', (I'.unpinned (pins := [])).weak hl (fun j v e => ?_), T.keep _ _ _ st7 fun b hb o e => (pin' b hb o e).1, fun b hb => ?_, w'⟩
        · rw [← hw8] at e
          exact (L2.wipe_some e).1
        · obtain ⟨o, e, _⟩ := T.obj _ _ st7 b hb
          exact (pin' b hb o e).2
      cases b with
      | false =>
        simp only [Bool.false_eq_true, if_false] at q9 ⊢
        exact fin I9 q9
      | true =>
        simp only [if_true] at q9 ⊢
        refine thnF (pe.run _ s9 σ8 H9 _ I9 q9) fun z s10 ⟨yv, H10, I10, r10, t, k, ls, ey, hk10, hD10, hls, hz10, nx⟩ => ?_
        subst ey
        cases (show z = Value.ref t from r10)
        exact addT_ok (X := X.blk s3 H3 scope ce fp) hub I10 hD10 hls hk10 hz10 fun s11 ls' I11 c1 c2 => fin I11 (nx ls' c1 c2)
  exact PpSet.codeAny_compStart_set loop (T.self X.A 0 _ _ _ st4 loop)
end
end Da
namespace Da
open PySem PySem.Spec L2
def cdP (p : Int × Int) : Int := p.1 * 64 + p.2
def dcP (z : Int) : Int × Int := (z / 64, z % 64)
def P64 (p : Int × Int) : Prop := 0 ≤ p.1 ∧ p.1 < 64 ∧ 0 ≤ p.2 ∧ p.2 < 64
instance (p : Int × Int) : Decidable (P64 p) := by unfold P64; exact inferInstance
theorem dc_cd {p : Int × Int} (h : P64 p) : dcP (cdP p) = p := by
  unfold dcP cdP
  obtain ⟨a, b⟩ := p
  obtain ⟨h1, h2, h3, h4⟩ := h
  dsimp only at h1 h2 h3 h4 ⊢
  rw [show (a * 64 + b) / 64 = a by omega, show (a * 64 + b) % 64 = b by omega]
/-- each number once -/
def onceI : List Int → List Int
  | [] => []
  | x :: xs => if x ∈ xs then onceI xs else x :: onceI xs
theorem mem_onceI {x : Int} : ∀ {xs : List Int}, x ∈ onceI xs ↔ x ∈ xs
  | [] => Iff.rfl
  | y :: xs => by
    unfold onceI
    by_cases h : y ∈ xs
    · rw [if_pos h, mem_onceI, List.mem_cons]
      exact ⟨.inr, fun z => z.elim (fun e => by rw [e]; exact h) id⟩
    · rw [if_neg h, List.mem_cons, List.mem_cons, mem_onceI]
theorem nodup_onceI : ∀ xs : List Int, (onceI xs).Nodup
  | [] => List.nodup_nil
  | y :: xs => by
    unfold onceI
    by_cases h : y ∈ xs
    · rw [if_pos h]; exact nodup_onceI xs
    · rw [if_neg h]; exact List.nodup_cons.mpr ⟨fun z => h (mem_onceI.mp z), nodup_onceI xs⟩
/-- the pairs, each once, in order -/
def sortP (ps : List (Int × Int)) : List (Int × Int) := ((onceI (ps.map cdP)).mergeSort leI).map dcP
def pD (p : Int × Int) : D := .tup [.int p.1, .int p.2]
def pairD : D → Option (Int × Int)
  | .tup [.int a, .int b] => if P64 (a, b) then some (a, b) else none
  | _ => none
theorem pairD_some {d : D} {p : Int × Int} (h : pairD d = some p) : d = pD p ∧ P64 p := by
  unfold pairD at h
  split at h
  · split at h
    · rename_i hp
      cases h
      exact ⟨rfl, hp⟩
    · cases h
  · cases h
def pairsD : List D → Option (List (Int × Int))
  | [] => some []
  | d :: ds => match pairD d, pairsD ds with
    | some p, some ps => some (p :: ps)
    | _, _ => none
theorem pairsD_some : ∀ {ds : List D} {ps : List (Int × Int)}, pairsD ds = some ps → ds = ps.map pD ∧ ∀ p ∈ ps, P64 p
  | [], _, h => by cases h; exact ⟨rfl, fun _ z => nomatch z⟩
  | d :: ds, _, h => by
    unfold pairsD at h
    split at h
    · rename_i p ps e1 e2
      cases h
      obtain ⟨a1, a2⟩ := pairD_some e1
      obtain ⟨b1, b2⟩ := pairsD_some e2
      refine ⟨by rw [a1, b1]; rfl, fun q hq => ?_⟩
      rcases List.mem_cons.mp hq with rfl | hq
      · exact a2
      · exact b2 q hq
    · cases h
/-- the parts of a split list -/
theorem pairsD_at {ds rest : List D} {y : D} {ps : List (Int × Int)} (h : pairsD (ds ++ y :: rest) = some ps) : ∃ p, pairD y = some p := by
  induction ds generalizing ps with
  | nil =>
    rw [List.nil_append] at h
    unfold pairsD at h
    split at h
    · rename_i p ps e1 e2; exact ⟨p, e1⟩
    · cases h
  | cons d ds ih =>
    rw [List.cons_append] at h
    unfold pairsD at h
    split at h
    · rename_i p ps e1 e2; exact ih e2
    · cases h
def fSortSc (vs : List Nat) (it : Env → Res (List D)) (g : D → Env → Res Env) (c : Env → Res Bool) (f : Env → Res D) : Env → Res D := fun ρ => (it ρ).bind fun xs => match lcGo g c f (wipeD ρ vs) xs with
  | .ok ys => (match pairsD ys with
    | some ps => if ps.length < 64 then .ok (.lst ((sortP ps).map pD)) else .er
    | none => .er)
  | _ => .er
theorem code_key {p : Int × Int} : TS.code 64 [p.1, p.2] = cdP p := code_pair _ _
def keyP (p : Int × Int) : List Int := [p.1, p.2]
theorem eq_sorted {xs ys : List Int} (h1 : xs.Pairwise (· ≤ ·)) (h2 : xs.Nodup) (h3 : ys.Pairwise (· ≤ ·)) (h4 : ys.Nodup) (h : ∀ z, z ∈ xs ↔ z ∈ ys) : xs = ys := by
  have hp : xs.Perm ys := (List.perm_ext_iff_of_nodup h2 h4).mpr h
  exact List.Perm.eq_of_pairwise (fun a b _ _ hab hba => Int.le_antisymm hab hba) h1 h3 hp
/-- what a sorted list of the members is -/
theorem sorted_members {ps : List (Int × Int)} {L : List (Addr × List Int)} (hps : ∀ p ∈ ps, P64 p) (hm : ∀ k, k ∈ L.map (·.2) ↔ k ∈ ps.map keyP) (hn : (L.map (·.2)).Nodup) (hs : L.Pairwise (fun q r => TS.code 64 q.2 ≤ TS.code 64 r.2)) : L.map (·.2) = (sortP ps).map keyP := by
  have hk : ∀ k ∈ L.map (·.2), ∃ p, p ∈ ps ∧ k = keyP p := fun k h => by
    obtain ⟨p, a, b⟩ := List.mem_map.mp ((hm k).mp h)
    exact ⟨p, a, b.symm⟩
  -- by codes
  have e : (L.map (·.2)).map (TS.code 64) = (onceI (ps.map cdP)).mergeSort leI := by
    refine eq_sorted ?_ ?_ ?_ ?_ fun z => ?_
    · rw [List.map_map, List.pairwise_map]
      exact hs
    · refine List.pairwise_map.mpr (hn.imp_of_mem fun {x y} hx hy hne hxy => hne ?_)
      obtain ⟨p, p1, rfl⟩ := hk x hx
      obtain ⟨q, q1, rfl⟩ := hk y hy
      have : cdP p = cdP q := by rw [← code_key, ← code_key]; exact hxy
      rw [← dc_cd (hps p p1), ← dc_cd (hps q q1), this]
    · have := List.pairwise_mergeSort (le := leI) (fun a b c h1 h2 => by unfold leI at *; simp at *; omega) (fun a b => by unfold leI; simp; omega) (onceI (ps.map cdP))
      exact this.imp fun h => by unfold leI at h; simpa using h
    · exact (List.mergeSort_perm _ _).nodup_iff.mpr (nodup_onceI _)
    · rw [(List.mergeSort_perm _ _).mem_iff, mem_onceI]
      constructor
      · intro h
        obtain ⟨k, h1, h2⟩ := List.mem_map.mp h
        obtain ⟨p, p1, rfl⟩ := hk k h1
        rw [← h2]
        exact List.mem_map.mpr ⟨p, p1, code_key.symm⟩
      · intro h
        obtain ⟨p, p1, p2⟩ := List.mem_map.mp h
        refine List.mem_map.mpr ⟨keyP p, (hm _).mpr (List.mem_map_of_mem p1), ?_⟩
        rw [← p2]
        exact code_key
  unfold sortP
  rw [← e, List.map_map, List.map_map, List.map_map]
  refine (List.map_congr_left fun q hq => ?_).symm
  obtain ⟨p, p1, p2⟩ := hk q.2 (List.mem_map_of_mem hq)
  show keyP (dcP (TS.code 64 q.2)) = q.2
  rw [p2]
  show keyP (dcP (TS.code 64 [p.1, p.2])) = _
  rw [code_key, dc_cd (hps p p1)]
section
variable {K : PySem.W.Frag} {mg : Str → Option Value} {P : Program} {w : World} {E : WX} {m : Mds} {it : Env → Res (List D)} {g : D → Env → Res Env} {c : Env → Res Bool} {f : Env → Res D} {ts vs : List Nat}
/-- the set under way -/
def ScW (K : PySem.W.Frag) (P : Program) (w : World) (g : D → Env → Res Env) (c : Env → Res Bool) (f : Env → Res D) (ρ : Env) (xs ys : List D) (D0 : Addr) (S1 H1 : Hp) (i : Nat) (H : Hp) : Prop :=
  ∃ S2 ls done rest, Step S1 H1 S2 H ∧ S2 D0 = none ∧ H D0 = some (SetTO P w D0 ls) ∧ (∀ p ∈ ls, S2 p.1 = some (.tup (p.2.map V.int))) ∧ (ls.map (·.2)).Nodup ∧ (∀ k, k ∈ ls.map (·.2) ↔ k ∈ (done : List (Int × Int)).map keyP) ∧ ls.length ≤ done.length ∧ lcGo g c f ρ (xs.drop i) = .ok rest ∧ ys = done.map pD ++ rest
theorem pD_rep {S : Hp} {v : V} {p : Int × Int} (h : Rep K mg S v (pD p)) : ∃ t, v = .ref t ∧ S t = some (.tup ((keyP p).map V.int)) := by
  unfold pD at h
  generalize he : D.tup [.int p.1, .int p.2] = d at h
  cases h with
  | @tup a ws ds hq hl hi =>
    injection he with he
    subst he
    refine ⟨_, rfl, ?_⟩
    match ws, hl with
    | [x, y], _ =>
      have h0 := hi 0 x (.int p.1) rfl rfl
      have h1 := hi 1 y (.int p.2) rfl rfl
      cases h0
      cases h1
      exact hq
  | _ => cases he
theorem sc_ok {σ : L2.St} {H : Hp} {Q : VK} (hts : ∀ t ∈ ts, t ∈ vs) (h : tE K mg E m .ow (fSortSc vs it g c f) σ H Q) :
    tSet K P w (tI K mg E m it) (tGD K mg m ts g) (tT K mg EF m c) (tE K mg EF m .sh f) vs σ H (fun x H1 => rSortedT K P w [x] H1 Q) := by
  obtain ⟨S, ρ, hm, hp⟩ := h
  refine ⟨S, ρ, hm, (Post.bind hp).imp fun xs S1 H1 s1 k J w D0 hD => ?_⟩
  split at k
  · rename_i ys eg
    split at k
    · rename_i ps eps
      split at k
      · rename_i h64
        obtain ⟨ey0, hps⟩ := pairsD_some eps
        refine ⟨fun i n H => n = xs.length - i ∧ i ≤ xs.length ∧ ScW K _ _ g c f (wipeD ρ vs) xs ys D0 S1 H1 i H, ⟨xs.length, by simp, Nat.zero_le _, S1, [], [], ys, Step.hid s1.sub hD, s1.sub.free hD, upd_same, (fun _ z => nomatch z), List.nodup_nil, (fun _ => Iff.rfl), Nat.le_refl _, eg, rfl⟩, ?_⟩
        rintro i n H2 ⟨rfl, hi, S2, ls, done, rest, st2, hs2, hd2, rv, nd, mem, hle, el, ey⟩
        by_cases hlt : i < xs.length
        · obtain ⟨hgo, hyl⟩ := w.go i xs[i] S2 H2 (List.getElem?_eq_getElem hlt) st2.ss st2.sub
          refine .inr ⟨hgo, ScW K _ _ g c f (wipeD ρ vs) xs ys D0 S1 H1 (i + 1), fun H' z => ⟨xs.length - (i + 1), by omega, rfl, hlt, z⟩, fun x H3 y => ?_⟩
          obtain ⟨S3, s3, r3⟩ := hyl x H3 y
          rw [List.drop_eq_getElem_cons hlt] at el
          unfold lcGo at el
          split at el
          · rename_i ρ1 eg1
            have st3 := st2.trans s3
            obtain ⟨F, stF⟩ := (((hm.step s1).step st3).wipe vs).bare
            refine ⟨_, _, S3, F, wipeD ρ vs, xs[i], stF, r3, ?_⟩
            rw [eg1]
            intro σ4 S4 F4 H4 st4 s4 hfr
            refine ⟨wipe_eq (by rw [hfr.1, L2.wipe_length]) hfr.2 hts, S4, ρ1, st4.envM, ?_⟩
            split at el
            · rename_i b ec
              rw [ec]
              intro S5 H5 s5
              have a5 := (s3.trans s4).trans s5
              cases b with
              | false =>
                rw [if_neg (by decide)] at el
                show ScW K _ _ g c f (wipeD ρ vs) xs ys D0 S1 H1 (i + 1) H5
                exact ⟨S5, ls, done, rest, st2.trans a5, a5.out hs2 hd2, a5.hh _ _ hd2, fun p hp => a5.ss _ _ (rv p hp), nd, mem, hle, el, ey⟩
              | true =>
                rw [if_pos rfl] at el
                show tE K mg EF m Md.sh f σ4 H5 _
                split at el
                · rename_i y' ef
                  refine ⟨S5, ρ1, (st4.envM).step s5, ?_⟩
                  rw [ef]
                  intro v S6 H6 fp s6 o _ _
                  have a6 := a5.trans s6
                  split at el
                  · rename_i rest' er
                    cases el
                    have epx := eps
                    rw [ey] at epx
                    obtain ⟨p, hp⟩ := pairsD_at epx
                    obtain ⟨e1, hp64⟩ := pairD_some hp
                    have hr : Rep K mg S6 v (pD p) := by rw [← e1]; exact o.1
                    obtain ⟨t, rfl, ht⟩ := pD_rep hr
                    have hlen : ps.length = done.length + (rest'.length + 1) := by
                      have z := congrArg List.length ey0
                      rw [List.length_map, ey] at z
                      simp at z
                      omega
                    have rv6 : ∀ q ∈ ls, S6 q.1 = some (.tup (q.2.map V.int)) := fun q hq => a6.ss _ _ (rv q hq)
                    refine ⟨t, keyP p, ls, rfl, .inl (.inl (s6.sub _ _ ht)), a6.hh _ _ hd2, fun q hq => .inl (.inl (s6.sub _ _ (rv6 q hq))), by omega, fun ls' c1 c2 => ?_⟩
                    refine ⟨S6, ls', done ++ [p], rest', (st2.trans a6).write (a6.out hs2 hd2) hD, a6.out hs2 hd2, upd_same, ?_, ?_, ?_, ?_, er, by rw [ey, e1]; simp⟩
                    all_goals by_cases hk : keyP p ∈ ls.map (·.2)
                    · rw [c1 hk]; exact rv6
                    · intro q hq
                      rcases List.mem_cons.mp ((c2 hk).mem_iff.mp hq) with z | z
                      · rw [z]; exact ht
                      · exact rv6 q z
                    · rw [c1 hk]; exact nd
                    · exact (((c2 hk).map (·.2)).nodup_iff).mpr (List.nodup_cons.mpr ⟨hk, nd⟩)
                    · rw [c1 hk]
                      intro k'
                      rw [List.map_append, List.mem_append]
                      refine ⟨fun z => .inl ((mem k').mp z), fun z => z.elim (mem k').mpr fun z => ?_⟩
                      have : k' = keyP p := by simpa using z
                      rw [this]; exact hk
                    · intro k'
                      rw [((c2 hk).map (·.2)).mem_iff, List.map_append, List.mem_append, List.map_cons, List.mem_cons, mem k']
                      constructor
                      · rintro (z | z)
                        · exact .inr (by rw [z]; simp)
                        · exact .inl z
                      · rintro (z | z)
                        · exact .inr z
                        · exact .inl (by simpa using z)
                    · rw [c1 hk, List.length_append]; omega
                    · rw [(c2 hk).length_eq, List.length_append, List.length_cons]; simp; omega
                  · cases el
                · cases el
            · cases el
          · cases el
        · have e : i = xs.length := by omega
          subst e
          rw [List.drop_length] at el
          cases el
          rw [List.append_nil] at ey
          have hdn : done = ps := by
            have z : done.map pD = ps.map pD := ey.symm.trans ey0
            exact List.map_inj_right (fun a b h => by
              unfold pD at h
              injection h with h
              injection h with h1 h
              injection h1 with h1
              injection h with h2 _
              injection h2 with h2
              exact Prod.ext h1 h2) |>.mp z
          subst hdn
          refine .inl ⟨w.stop S2 H2 st2.ss st2.sub, D0, ls, 2, 64, rfl, hd2, fun q hq => .inl (.inl (st2.sub _ _ (rv q hq))), by decide, fun q hq => ?_, fun L' p pm ndL few pw hpn => ?_⟩
          · obtain ⟨p, p1, p2⟩ := List.mem_map.mp ((mem q.2).mp (List.mem_map_of_mem hq))
            rw [← p2]
            refine ⟨rfl, fun z hz => ?_⟩
            obtain ⟨b1, b2, b3, b4⟩ := hps p p1
            have : z = p.1 ∨ z = p.2 := by simpa [keyP] using hz
            rcases this with rfl | rfl
            · exact ⟨b1, b2⟩
            · exact ⟨b3, b4⟩
          · have es := sorted_members hps (fun k => by rw [(pm.map (·.2)).mem_iff]; exact mem k) ndL pw
            have hp1 : H1 p = none := st2.hh.free hpn
            refine k _ S2 _ [p] (st2.trans (Step.hid st2.sub hpn)) ⟨p, L'.map fun q => V.ref q.1, (sortP done).map pD, rfl, rfl, rfl, st2.sub.free hpn, upd_same, ?_⟩ (by simp) (fun a z => by
              have : a = p := by simpa using z
              rw [this]; exact hp1)
            have el : (sortP done).map pD = L'.map fun q => D.tup (q.2.map D.int) := by
              have : L'.map (fun q => D.tup (q.2.map D.int)) = (L'.map (·.2)).map fun k => D.tup (k.map D.int) := by rw [List.map_map]; rfl
              rw [this, es, List.map_map]
              rfl
            rw [el]
            refine ⟨by rw [List.length_map, List.length_map], fun j v d a b => ?_⟩
            rw [List.getElem?_map] at a b
            cases ej : L'[j]? with
            | none => rw [ej] at a; cases a
            | some q =>
              rw [ej] at a b
              cases a; cases b
              have hq := rv q (pm.mem_iff.mp (List.mem_of_getElem? ej))
              exact Rep.tupL hq ⟨by rw [List.length_map, List.length_map], fun j v d a b => by
                rw [List.getElem?_map] at a b
                cases ez : q.2[j]? with
                | none => rw [ez] at a; cases a
                | some z =>
                  rw [ez] at a b
                  cases a; cases b
                  exact .int z⟩
      · exact k.elim
    · exact k.elim
  · exact k.elim
end
section
variable {X : Cx} {E : WX} {m : Mds} {ts : List Nat} {N0 ps0 : List Str} {sc0 : Scope} {elt tg iter : Expr} {ifs : List Expr} {scope : Scope} {own : List (Str × Nat)} {pos p cpos : Pos} {it : Env → Res (List D)} {g : D → Env → Res Env} {c : Env → Res Bool} {f : Env → Res D}
theorem je_sortSc (Sc : FnScope N0 ps0 sc0) (own : List (Str × Nat)) (hr : RmU X.A) (hmS : X.mg "sorted" = none) (hi : JI X E m tg iter it)
    (hg : ∀ (s : Shared) (H : Hp) (C : Addr) (cl : List (Str × Addr)) (fp : List Addr), JG (X.blk s H scope (compEnvC scope cl C X.env) fp) m ts tg g) (ht : ∀ (s : Shared) (H : Hp) (C : Addr) (cl : List (Str × Addr)) (fp : List Addr), JTs (X.blk s H scope (compEnvC scope cl C X.env) fp) EF m ifs c)
    (he : ∀ (s : Shared) (H : Hp) (C : Addr) (cl : List (Str × Addr)) (fp : List Addr), JE (X.blk s H scope (compEnvC scope cl C X.env) fp) EF m .sh elt f) (hc : X.calm = true := by rfl) (hgS : Gl X "sorted" := by rfl) (hN0 : X.N = N0 := by rfl) (hsc : X.env.scope = sc0 := by rfl) (ok : blkC N0 sc0 scope own = true := by decide +kernel) (hts : ∀ t ∈ ts, t ∈ own.map (·.2) := by decide)
    (hs : ∀ x, foldedSetIterable iter X.env x = pure x := by intro _; rfl)
    (hst : starEach [.SetComp elt [⟨tg, iter, ifs, 0⟩] scope pos] X.env = (false, eval (.SetComp elt [⟨tg, iter, ifs, 0⟩] scope pos) X.env) :: starEach [] X.env := by rfl) :
    JE X E m .ow (.Call (.Name "sorted" p) [.SetComp elt [⟨tg, iter, ifs, 0⟩] scope pos] [] cpos) (fSortSc (own.map (·.2)) it g c f) :=
  ⟨PEimp (pe_callB (cr_sortedT hc) hgS hmS (by decide +kernel) (pa_cons (pe_setT (g := tGD X.K X.mg m ts g) (tt := tT X.K X.mg EF m c) (te := tE X.K X.mg EF m .sh f) (by unfold RmU at hr; omega) hc (by rw [hN0]; exact Sc.nd) hi.pi (blkOk_by (by rw [hN0, hsc]; exact ok)) (fun s H C cl fp => (hg s H C cl fp).pg) (fun s H C cl fp => (ht s H C cl fp).pt) (fun s H C cl fp => (he s H C cl fp).pe) hs) pa_nil hst) (by decide) (by decide) hst (by rfl)) fun σ H Q h => sc_ok hts h⟩
end
end Da
namespace Da
open PySem PySem.Spec L2
section
variable {X : Cx} {E : WX} {m : Mds} {pos : Pos} {x : Str}
def GlobI (mg : Str → Option Value) (x : Str) (i : Int) : Prop := ∃ t, mg x = some (.int i t)
theorem je_globI {i : Int} (h : GlobI X.mg x i) (hg : Gl X x := by rfl) (hdb : (x == ("__debug__" : Str)) = false := by decide) : JE X E m .sh (.Name x pos) (fC (.int i)) := by
  obtain ⟨t, hm⟩ := h
  exact ⟨PEimp (pe_glob (v := .int i) hg hm ⟨t, rfl⟩ hdb) fun σ H Q q => by
    obtain ⟨S, ρ, he, hp⟩ := q
    exact hp.val he.1 (.int i)⟩
theorem globI_mk {mg : Str → Option Value} {i : Int} {t : Tok} (h : mg x = some (.int i t)) : GlobI mg x i := ⟨t, h⟩
end
end Da
namespace Da
open PySem PySem.Spec L2
/-- the mode of an own tree, n deep; .. that is lent and stands at q -/
def mdT : Nat → Md
  | 0 => .sh
  | 1 => .ow
  | n + 2 => .tr (n + 2) none none
def mdL : Nat → Addr → Md
  | 0, _ => .sh
  | 1, q => .owq q
  | n + 2, q => .tr (n + 2) none (some q)
def IsTr (n : Nat) (md : Md) : Prop := md = mdT n ∨ ∃ q, md = mdL n q
section
variable {K : PySem.W.Frag} {mg : Str → Option Value} {m : Mds} {S0 H0 S S' H H' : Hp} {σ : L2.St} {ρ : Env} {F : Nat → List Addr} {fp : List Addr} {v : V} {d : D}
theorem flat_nil : ∀ {fps : List (List Addr)}, (∀ (j : Nat) (f : List Addr), fps[j]? = some f → f = []) → fps.flatten = []
  | [], _ => rfl
  | f :: fps, h => by
    have h0 : f = [] := h 0 f rfl
    have h1 := flat_nil (fps := fps) fun j g e => h (j + 1) g (by simpa using e)
    rw [List.flatten_cons, h0, h1]
    rfl
theorem own1 : OwnTr K mg S H 1 fp v d ↔ ∃ p vs ds, v = .ref p ∧ d = .lst ds ∧ fp = [p] ∧ S p = none ∧ H p = some (.lst vs) ∧ RepL K mg S vs ds := by
  constructor
  · rintro ⟨p, vs, ds, fps, e1, e2, e3, e4, e5, e6, e7, e8⟩
    refine ⟨p, vs, ds, e1, e2, ?_, e4, e5, ⟨e6, fun i w e a b => ?_⟩⟩
    · rw [e3, flat_nil fun j f ej => ?_]
      have hl := (List.getElem?_eq_some_iff.mp ej).1
      exact (e8 j _ _ f (List.getElem?_eq_getElem (by omega)) (List.getElem?_eq_getElem (by omega)) ej).2
    · have hl := (List.getElem?_eq_some_iff.mp b).1
      exact (e8 i w e _ a b (List.getElem?_eq_getElem (l := fps) (by omega))).1
  · rintro ⟨p, vs, ds, e1, e2, e3, e4, e5, e6⟩
    refine ⟨p, vs, ds, List.replicate ds.length [], e1, e2, ?_, e4, e5, e6.len, by simp, fun j w e f a b c => ?_⟩
    · rw [e3, flat_nil]
      intro j f ej
      rw [List.getElem?_replicate] at ej
      split at ej
      · cases ej; rfl
      · cases ej
    · rw [List.getElem?_replicate] at c
      split at c
      · cases c; exact ⟨e6.at_ j w e a b, rfl⟩
      · cases c
theorem mdT_own : ∀ {n : Nat}, OwnAt K mg S H fp v d (mdT n) ↔ OwnTr K mg S H n fp v d
  | 0 => Iff.rfl
  | 1 => own1.symm
  | n + 2 => ⟨fun h => h.2, fun h => ⟨(fun q z => nomatch z), h⟩⟩
theorem mdL_own : ∀ {n : Nat} {q : Addr}, OwnAt K mg S H fp v d (mdL (n + 1) q) ↔ v = .ref q ∧ OwnTr K mg S H (n + 1) fp v d
  | 0, q => ⟨fun h => ⟨h.1, own1.mpr h.2⟩, fun h => ⟨h.1, own1.mp h.2⟩⟩
  | n + 1, q => ⟨fun h => ⟨h.1 q rfl, h.2⟩, fun h => ⟨fun q' z => by cases z; exact h.1, h.2⟩⟩
theorem IsTr.own {n : Nat} {md : Md} (hmd : IsTr (n + 1) md) (h : OwnAt K mg S H fp v d md) : OwnTr K mg S H (n + 1) fp v d := by
  rcases hmd with hmd | ⟨q, hmd⟩
  · rw [hmd] at h; exact mdT_own.mp h
  · rw [hmd] at h; exact (mdL_own.mp h).2
/-- the same thing, changed -/
theorem IsTr.back {n : Nat} {md : Md} {fp' : List Addr} {d' : D} (hmd : IsTr (n + 1) md) (h : OwnAt K mg S H fp v d md) (k : OwnTr K mg S' H' (n + 1) fp' v d') : OwnAt K mg S' H' fp' v d' md := by
  rcases hmd with hmd | ⟨q, hmd⟩
  · rw [hmd]; exact mdT_own.mpr k
  · rw [hmd] at h ⊢; exact mdL_own.mpr ⟨(mdL_own.mp h).1, k⟩
theorem OwnTr.agree : ∀ {n : Nat} {fp : List Addr} {v : V} {d : D}, (∀ a, a ∈ fp → H' a = H a) → OwnTr K mg S H n fp v d → OwnTr K mg S H' n fp v d
  | 0, _, _, _, _, h => h
  | n + 1, _, _, _, hf, h => by
    obtain ⟨q, vs, ds, fps, e1, e2, e3, e4, e5, e6, e7, e8⟩ := h
    exact ⟨q, vs, ds, fps, e1, e2, e3, e4, by rw [hf q (by rw [e3]; exact List.mem_cons_self)]; exact e5, e6, e7, fun j w e f x y z => (e8 j w e f x y z).agree fun a ha => hf a (by rw [e3]; exact List.mem_cons_of_mem _ (flat_mem z ha))⟩
theorem OwnAt.agree {md : Md} (hf : ∀ a, a ∈ fp → H' a = H a) (h : OwnAt K mg S H fp v d md) : OwnAt K mg S H' fp v d md := by
  cases md with
  | owq q0 =>
    obtain ⟨e0, p, vs, ds, e1, e2, e3, e4, e5, e6⟩ := h
    exact ⟨e0, p, vs, ds, e1, e2, e3, e4, by rw [hf p (by rw [e3]; exact List.mem_cons_self)]; exact e5, e6⟩
  | tr n b at_ =>
    cases b with
    | none => exact ⟨h.1, h.2.agree hf⟩
    | some kq =>
      obtain ⟨h0, p, vs, ds, fps, e1, e2, e3, e4, e5, e6, e7, h1, h2, h3, e8⟩ := h
      exact ⟨h0, p, vs, ds, fps, e1, e2, e3, e4, by rw [hf p (by rw [e3]; exact List.mem_cons_self)]; exact e5, e6, e7, h1, h2, h3, fun j w e f i x y z => (e8 j w e f i x y z).agree fun a ha => hf a (by rw [e3]; exact List.mem_cons_of_mem _ (flat_mem z ha))⟩
  | ex a0 b0 c0 => exact h
  | sh => exact h
  | ow =>
    obtain ⟨p, vs, ds, e1, e2, e3, e4, e5, e6⟩ := h
    exact ⟨p, vs, ds, e1, e2, e3, e4, by rw [hf p (by rw [e3]; exact List.mem_cons_self)]; exact e5, e6⟩
  | ow2 =>
    obtain ⟨q, ps, dss, e1, e2, e3, e4, e5, e6, e7⟩ := h
    refine ⟨q, ps, dss, e1, e2, e3, e4, by rw [hf q (by rw [e3]; exact List.mem_cons_self)]; exact e5, e6, fun j r ds x y => ?_⟩
    obtain ⟨z1, vs, z2, z3⟩ := e7 j r ds x y
    exact ⟨z1, vs, by rw [hf r (by rw [e3]; exact List.mem_cons_of_mem _ (List.mem_of_getElem? x))]; exact z2, z3⟩
  | dk =>
    obtain ⟨p, vs, ds, e1, e2, e3, e4, e5, e6⟩ := h
    exact ⟨p, vs, ds, e1, e2, e3, e4, by rw [hf p (by rw [e3]; exact List.mem_cons_self)]; exact e5, e6⟩
  | dt =>
    obtain ⟨p, vs, ds, e1, e2, e3, e4, e5, e6⟩ := h
    exact ⟨p, vs, ds, e1, e2, e3, e4, by rw [hf p (by rw [e3]; exact List.mem_cons_self)]; exact e5, e6⟩
  | ob q =>
    obtain ⟨dx, C, c, fs, ds, e1, e2, e3, e4, e5, e6, e7, e8, e9⟩ := h
    exact ⟨dx, C, c, fs, ds, e1, e2, e3, e4, e5, e6, by rw [hf q (by rw [e3]; exact List.mem_cons_self)]; exact e7, by rw [hf dx (by rw [e3]; exact List.mem_cons_of_mem _ List.mem_cons_self)]; exact e8, e9⟩
/-- slot i's thing is changed in its own place, with what is new -/
theorem StF.put {i : Nat} {d0 d1 : D} {fp' : List Addr} (st : StF K mg m S0 H0 S F σ ρ H) (hρ : ρ[i]? = some (some d0)) (hσ : σ[i]? = some (some v)) (hch : ∀ a, a ∉ F i → H' a = H a)
    (o : OwnAt K mg S H' fp' v d1 (mdAt m i)) (hn : fp'.Nodup) (hf : ∀ a, a ∈ fp' → a ∈ F i ∨ (H0 a = none ∧ ∀ j d, j ≠ i → ρ[j]? = some (some d) → a ∉ F j)) :
    StF K mg m S0 H0 S (F_set F i fp') σ (ρ.set i (some d1)) H' := by
  obtain ⟨s, en, nw⟩ := st
  have hil : i < ρ.length := (List.getElem?_eq_some_iff.mp hρ).1
  have key : ∀ j d', (ρ.set i (some d1))[j]? = some (some d') → (j = i ∧ d' = d1) ∨ (j ≠ i ∧ ρ[j]? = some (some d')) := fun j d' ej => by
    by_cases hj : j = i
    · subst hj
      rw [List.getElem?_set_self hil] at ej
      injection ej with z; injection z with z
      exact .inl ⟨rfl, z.symm⟩
    · rw [List.getElem?_set_ne (Ne.symm hj)] at ej
      exact .inr ⟨hj, ej⟩
  obtain ⟨v0, ev0, o0⟩ := en.at_ i d0 hρ
  have apart : ∀ j d', j ≠ i → ρ[j]? = some (some d') → ∀ a, a ∈ fp' → a ∉ F j := fun j d' hj ej a ha => by
    rcases hf a ha with z | z
    · exact en.apart i j _ d' (Ne.symm hj) hρ ej a z
    · exact z.2 j d' hj ej
  refine ⟨⟨fun a u ea => ?_, s.ss, fun a u ea => ?_, s.new⟩, ⟨by rw [List.length_set]; exact en.len, fun j d' ej => ?_, fun j d' ej => ?_, fun j k a b hjk e1 e2 => ?_⟩, fun j d' ej => ?_⟩
  · rw [hch a (fun z => by rw [nw i _ hρ a z] at ea; cases ea)]
    exact s.hh a u ea
  · rw [hch a (fun z => by rw [(o0.out z).1] at ea; cases ea)]
    exact s.sub a u ea
  · rcases key j d' ej with ⟨rfl, rfl⟩ | ⟨hj, ej'⟩
    · exact ⟨v, hσ, by rw [F_at]; exact o⟩
    · obtain ⟨w, e1, o1⟩ := en.at_ j d' ej'
      rw [F_off hj]
      exact ⟨w, e1, o1.agree fun a ha => hch a (en.apart j i d' _ hj ej' hρ a ha)⟩
  · rcases key j d' ej with ⟨rfl, rfl⟩ | ⟨hj, ej'⟩
    · rw [F_at]; exact hn
    · rw [F_off hj]; exact en.nd j d' ej'
  · rcases key j a e1 with ⟨rfl, rfl⟩ | ⟨hj, e1'⟩
    · rcases key k b e2 with ⟨z, _⟩ | ⟨hk, e2'⟩
      · exact absurd z.symm hjk
      · rw [F_at, F_off hk]; exact apart k b hk e2'
    · rcases key k b e2 with ⟨rfl, rfl⟩ | ⟨hk, e2'⟩
      · rw [F_at, F_off hj]; exact fun x hx z => apart j a hj e1' x z hx
      · rw [F_off hj, F_off hk]; exact en.apart j k a b hjk e1' e2'
  · rcases key j d' ej with ⟨rfl, rfl⟩ | ⟨hj, ej'⟩
    · rw [F_at]; intro a ha
      rcases hf a ha with z | z
      · exact nw _ _ hρ a z
      · exact z.1
    · rw [F_off hj]; exact nw j d' ej'
/-- what is known of an own tree -/
theorem StF.ownT {i n : Nat} (st : StF K mg m S0 H0 S F σ ρ H) (hmd : IsTr (n + 1) (mdAt m i)) (hρ : ρ[i]? = some (some d)) :
    ∃ v, σ[i]? = some (some v) ∧ OwnAt K mg S H (F i) v d (mdAt m i) ∧ OwnTr K mg S H (n + 1) (F i) v d ∧ (F i).Nodup := by
  obtain ⟨v, e1, o⟩ := st.2.1.at_ i d hρ
  exact ⟨v, e1, o, hmd.own o, st.2.1.nd i d hρ⟩
theorem set_flat {fps : List (List Addr)} {k : Nat} {f g : List Addr} (hk : fps[k]? = some f) (a : Addr) : a ∈ (fps.set k g).flatten ↔ a ∈ g ∨ ∃ j h, j ≠ k ∧ fps[j]? = some h ∧ a ∈ h := by
  have hkl := (List.getElem?_eq_some_iff.mp hk).1
  constructor
  · intro h
    obtain ⟨j, f', hj, ha⟩ := mem_flat h
    by_cases hjk : j = k
    · subst hjk
      rw [List.getElem?_set_self hkl] at hj
      cases hj
      exact .inl ha
    · rw [List.getElem?_set_ne (Ne.symm hjk)] at hj
      exact .inr ⟨j, f', hjk, hj, ha⟩
  · rintro (h | ⟨j, f', hjk, hj, ha⟩)
    · exact flat_mem (j := k) (List.getElem?_set_self hkl) h
    · exact flat_mem (j := j) (by rw [List.getElem?_set_ne (Ne.symm hjk)]; exact hj) ha
theorem nd_split : ∀ {fps : List (List Addr)} {k : Nat} {f : List Addr}, fps[k]? = some f → (fps.flatten.Nodup ↔ f.Nodup ∧ (fps.set k []).flatten.Nodup ∧ ∀ a, a ∈ f → a ∉ (fps.set k []).flatten)
  | [], k, f, h => by simp at h
  | g :: fps, 0, f, h => by
    cases h
    simp only [List.set_cons_zero, List.flatten_cons, List.nil_append]
    rw [List.nodup_append]
    exact ⟨fun ⟨a, b, c⟩ => ⟨a, b, fun x hx hy => c x hx x hy rfl⟩, fun ⟨a, b, c⟩ => ⟨a, b, fun x hx y hy z => c x hx (by rw [z]; exact hy)⟩⟩
  | g :: fps, k + 1, f, h => by
    have h' : fps[k]? = some f := by simpa using h
    have ih := nd_split h'
    simp only [List.set_cons_succ, List.flatten_cons]
    rw [List.nodup_append, List.nodup_append, ih]
    have hkl := (List.getElem?_eq_some_iff.mp h').1
    have mem : ∀ a, a ∈ fps.flatten ↔ a ∈ f ∨ a ∈ (fps.set k []).flatten := fun a => by
      have e : fps.set k f = fps := by
        refine List.ext_getElem? fun j => ?_
        rw [List.getElem?_set]
        split
        · rename_i hj; subst hj; first | (rw [if_pos hkl, h']) | exact h'.symm
        · rfl
      have := set_flat (g := f) h' a
      rw [e] at this
      have t2 := set_flat (g := []) h' a
      rw [this, t2]
      simp
    constructor
    · rintro ⟨a, ⟨b, c, dd⟩, e⟩
      refine ⟨b, ⟨a, c, fun x hx y hy => e x hx y ((mem y).mpr (.inr hy))⟩, fun x hx hy => ?_⟩
      rcases List.mem_append.mp hy with z | z
      · exact e x z x ((mem x).mpr (.inl hx)) rfl
      · exact dd x hx z
    · rintro ⟨b, ⟨a, c, e⟩, dd⟩
      refine ⟨a, ⟨b, c, fun x hx hy => dd x hx (List.mem_append_right _ hy)⟩, fun x hx y hy z => ?_⟩
      rcases (mem y).mp hy with w | w
      · exact dd y w (List.mem_append_left _ (by rw [← z]; exact hx))
      · exact e x hx y w z
/-- an inner thing is replaced by one of one's own -/
theorem OwnTr.setT {n k : Nat} {p : Addr} {vs : List V} {ds : List D} {fps : List (List Addr)} {w : V} {e : D} {f g : List Addr}
    (sp : S p = none) (h6 : vs.length = ds.length) (h7 : fps.length = ds.length) (h8 : ∀ (j : Nat) (w : V) (e : D) (f : List Addr), j ≠ k → vs[j]? = some w → ds[j]? = some e → fps[j]? = some f → OwnTr K mg S H n f w e)
    (hp : H p = some (.lst (vs.set k w))) (o : OwnTr K mg S H n g w e) (hk : k < ds.length) : OwnTr K mg S H (n + 1) (p :: (fps.set k g).flatten) (.ref p) (.lst (ds.set k e)) := by
  refine ⟨p, vs.set k w, ds.set k e, fps.set k g, rfl, rfl, rfl, sp, hp, by simp [h6], by simp [h7], fun j w' e' f' a b c => ?_⟩
  by_cases hj : j = k
  · subst hj
    rw [List.getElem?_set_self (by omega)] at a b c
    cases a; cases b; cases c
    exact o
  · rw [List.getElem?_set_ne (Ne.symm hj)] at a b c
    exact h8 j w' e' f' hj a b c
end
section
variable {K : PySem.W.Frag} {mg : Str → Option Value} {E : WX} {m : Mds} {it : Env → Res (List D)} {g : D → Env → Res Env} {c : Env → Res Bool} {f : Env → Res D} {ts vs : List Nat}
/-- the list of new trees under way -/
def LcT (K : PySem.W.Frag) (mg : Str → Option Value) (n : Nat) (g : D → Env → Res Env) (c : Env → Res Bool) (f : Env → Res D) (ρ : Env) (xs ys : List D) (D0 : Addr) (S1 H1 : Hp) (i : Nat) (H : Hp) : Prop :=
  ∃ (S2 : Hp) (ws : List V) (ds : List D) (fps : List (List Addr)) (rest : List D), Step S1 H1 S2 H ∧ S2 D0 = none ∧ H D0 = some (.lst ws) ∧ ws.length = ds.length ∧ fps.length = ds.length ∧
    (∀ (j : Nat) (w : V) (e : D) (f : List Addr), ws[j]? = some w → ds[j]? = some e → fps[j]? = some f → OwnTr K mg S2 H n f w e) ∧
    (D0 :: fps.flatten).Nodup ∧ (∀ q, q ∈ fps.flatten → H1 q = none) ∧ lcGo g c f ρ (xs.drop i) = .ok rest ∧ ys = ds ++ rest ∧ ds.length ≤ i
theorem flat_snoc {fps : List (List Addr)} {g : List Addr} : (fps ++ [g]).flatten = fps.flatten ++ g := by simp
theorem lcT_ok {n : Nat} {σ : L2.St} {H : Hp} {Q : VK} (hts : ∀ t ∈ ts, t ∈ vs) (h : tE K mg E m (mdT (n + 1)) (fLc vs it g c f) σ H Q) :
    tLc (tI K mg E m it) (tGD K mg m ts g) (tT K mg EF m c) (tE K mg EF m (mdT n) f) vs σ H Q := by
  obtain ⟨S, ρ, hm, hp⟩ := h
  refine ⟨S, ρ, hm, (Post.bind hp).imp fun xs S1 H1 s1 k J w D0 hD => ?_⟩
  split at k
  rotate_left
  · exact k.elim
  rename_i hz
  have hz := szOk_ok hz
  cases eg : lcGo g c f (wipeD ρ vs) xs with
  | ex c' fs => rw [eg] at k; exact k.elim
  | er => rw [eg] at k; exact k.elim
  | ok ys =>
    rw [eg] at k
    have k : Post K mg (WE E σ) S1 H1 (mdT (n + 1)) (.ok (.lst ys)) Q := k
    refine ⟨fun i u H => u = xs.length - i ∧ i ≤ xs.length ∧ LcT K mg n g c f (wipeD ρ vs) xs ys D0 S1 H1 i H, ⟨xs.length, by simp, Nat.zero_le _, S1, [], [], [], ys, Step.hid s1.sub hD, s1.sub.free hD, upd_same, rfl, rfl, (fun j w e f a _ _ => by simp at a), (by simp), (fun q hq => by simp at hq), eg, rfl, Nat.le_refl _⟩, ?_⟩
    rintro i u H2 ⟨rfl, hi, S2, ws, ds, fps, rest, st2, hs2, hd2, hl, hfl, hin, hnd, hnew, el, ey, hn⟩
    by_cases hlt : i < xs.length
    · obtain ⟨hgo, hyl⟩ := w.go i xs[i] S2 H2 (List.getElem?_eq_getElem hlt) st2.ss st2.sub
      refine .inr ⟨hgo, LcT K mg n g c f (wipeD ρ vs) xs ys D0 S1 H1 (i + 1), fun H' z => ⟨xs.length - (i + 1), by omega, rfl, hlt, z⟩, fun x H3 y => ?_⟩
      obtain ⟨S3, s3, r3⟩ := hyl x H3 y
      rw [List.drop_eq_getElem_cons hlt] at el
      unfold lcGo at el
      cases eg1 : g xs[i] (wipeD ρ vs) with
      | ex c' fs => rw [eg1] at el; cases el
      | er => rw [eg1] at el; cases el
      | ok ρ1 =>
        rw [eg1] at el
        simp only at el
        have st3 := st2.trans s3
        obtain ⟨F, stF⟩ := (((hm.step s1).step st3).wipe vs).bare
        refine ⟨_, _, S3, F, wipeD ρ vs, xs[i], stF, r3, ?_⟩
        rw [eg1]
        intro σ4 S4 F4 H4 st4 s4 hfr
        refine ⟨wipe_eq (by rw [hfr.1, L2.wipe_length]) hfr.2 hts, S4, ρ1, st4.envM, ?_⟩
        cases ec : c ρ1 with
        | ex c' fs => rw [ec] at el; cases el
        | er => rw [ec] at el; cases el
        | ok b =>
          rw [ec] at el
          simp only at el
          intro S5 H5 s5
          have a5 := (s3.trans s4).trans s5
          cases b with
          | false =>
            rw [if_neg (by decide)] at el
            show LcT K mg n g c f (wipeD ρ vs) xs ys D0 S1 H1 (i + 1) H5
            exact ⟨S5, ws, ds, fps, rest, st2.trans a5, a5.out hs2 hd2, a5.hh _ _ hd2, hl, hfl, fun j w e f x y z => (hin j w e f x y z).step a5, hnd, hnew, el, ey, by omega⟩
          | true =>
            rw [if_pos rfl] at el
            show tE K mg EF m (mdT n) f σ4 H5 _
            refine ⟨S5, ρ1, (st4.envM).step s5, ?_⟩
            cases ef : f ρ1 with
            | ex c' fs => rw [ef] at el; cases el
            | er => rw [ef] at el; cases el
            | ok y' =>
              rw [ef] at el
              simp only at el
              intro v S6 H6 fp s6 o hfn hf
              have o := mdT_own.mp o
              have a6 := a5.trans s6
              cases er : lcGo g c f (wipeD ρ vs) (xs.drop (i + 1)) with
              | ex c' fs => rw [er] at el; cases el
              | er => rw [er] at el; cases el
              | ok rest' =>
                rw [er] at el
                cases el
                have old : ∀ a, a ∈ fps.flatten → ∃ o, H5 a = some o := fun a ha => by
                  obtain ⟨j, f', hj, hfj⟩ := mem_flat ha
                  have hjl := (List.getElem?_eq_some_iff.mp hj).1
                  obtain ⟨_, o', ho'⟩ := (hin j _ _ f' (List.getElem?_eq_getElem (by omega)) (List.getElem?_eq_getElem (by omega)) hj).out hfj
                  exact ⟨o', a5.hh _ _ ho'⟩
                have hDf : D0 ∉ fp := fun z => by
                  have := hf D0 z
                  rw [a5.hh _ _ hd2] at this
                  cases this
                have hDp : D0 ∉ fps.flatten := (List.nodup_cons.mp hnd).1
                refine ⟨ws, a6.hh _ _ hd2, by omega, S6, ws ++ [v], ds ++ [y'], fps ++ [fp], rest', (st2.trans a6).write (a6.out hs2 hd2) hD, a6.out hs2 hd2, ?_, by simp [hl], by simp [hfl], fun j w e f' x y z => ?_, ?_, fun q hq => ?_, er, by rw [ey]; simp, by simp; omega⟩
                · rw [upd_same]
                · by_cases hj : j < ds.length
                  · rw [List.getElem?_append_left (by omega)] at x y z
                    exact ((hin j w e f' x y z).step a6).agree fun a ha => by
                      rw [upd_ne fun zz => hDp (by rw [← zz]; exact flat_mem z ha)]
                  · have hjl := (List.getElem?_eq_some_iff.mp y).1
                    rw [List.length_append] at hjl
                    have : j = ds.length := by simp at hjl; omega
                    subst this
                    rw [List.getElem?_concat_length] at y
                    rw [← hl, List.getElem?_concat_length] at x
                    rw [← hfl, List.getElem?_concat_length] at z
                    cases x; cases y; cases z
                    exact o.agree fun a ha => by rw [upd_ne fun zz => hDf (by rw [← zz]; exact ha)]
                · rw [flat_snoc, List.nodup_cons]
                  rw [List.nodup_cons] at hnd
                  refine ⟨fun z => ?_, ?_⟩
                  · rcases List.mem_append.mp z with z | z
                    · exact hDp z
                    · exact hDf z
                  · rw [List.nodup_append]
                    refine ⟨hnd.2, hfn, fun a ha b hb z => ?_⟩
                    obtain ⟨o', ho'⟩ := old a ha
                    rw [z, hf b hb] at ho'
                    cases ho'
                · rw [flat_snoc] at hq
                  rcases List.mem_append.mp hq with z | z
                  · exact hnew q z
                  · exact (st2.trans a5).hh.free (hf q z)
    · have e : i = xs.length := by omega
      subst e
      rw [List.drop_length] at el
      cases el
      rw [List.append_nil] at ey
      subst ey
      refine .inl ⟨w.stop S2 H2 st2.ss st2.sub, k _ S2 H2 (D0 :: fps.flatten) st2 (mdT_own.mpr ⟨D0, ws, ys, fps, rfl, rfl, rfl, hs2, hd2, hl, hfl, hin⟩) hnd (fun a z => ?_)⟩
      rcases List.mem_cons.mp z with z | z
      · rw [z]; exact hD
      · exact hnew a z
end
end Da
namespace Da
open PySem PySem.Spec L2
section
variable {X : Cx} {E : WX} {L : Lp} {m : Mds} {ts : List Nat} {N0 ps0 : List Str} {sc0 : Scope} {elt tg iter e j e2 j2 : Expr} {ifs : List Expr} {scope : Scope} {pos p1 p2 p3 p4 : Pos} {it : Env → Res (List D)} {g : D → Env → Res Env} {c : Env → Res Bool} {f fj fj2 : Env → Res D} {x : Str}
theorem js_setLcT (n : Nat) (i : Nat) {md1 md2 : Md} {y : Str} {py spos : Pos} (Sc : FnScope N0 ps0 sc0) (own : List (Str × Nat)) (hi : JI X E m tg iter it)
    (hg : ∀ (s : Shared) (H : Hp) (C : Addr) (cl : List (Str × Addr)) (fp : List Addr), JG (X.blk s H scope (compEnvC scope cl C X.env) fp) m ts tg g) (ht : ∀ (s : Shared) (H : Hp) (C : Addr) (cl : List (Str × Addr)) (fp : List Addr), JTs (X.blk s H scope (compEnvC scope cl C X.env) fp) EF m ifs c) (he : ∀ (s : Shared) (H : Hp) (C : Addr) (cl : List (Str × Addr)) (fp : List Addr), JE (X.blk s H scope (compEnvC scope cl C X.env) fp) EF m md1 elt f) (h1 : md1 = mdT n := by rfl) (h2 : md2 = mdT (n + 1) := by rfl) (hl : i < m.length := by first | decide | simp) (hy : X.N[i]? = some y := by rfl) (hyl : X.env.scope.names.lookup y = some .local := by rfl)
    (hsw : swapsWith (.ListComp elt [⟨tg, iter, ifs, 0⟩] scope pos) (some (.Name y py)) spos.line X.env = pure true := by rfl) (hc : X.calm = true := by rfl) (hN0 : X.N = N0 := by rfl) (hsc : X.env.scope = sc0 := by rfl) (ok : blkC N0 sc0 scope own = true := by decide +kernel) (hts : ∀ t ∈ ts, t ∈ own.map (·.2) := by decide)
    (hs : ∀ x, foldedSetIterable iter X.env x = pure x := by intro _; rfl) : JS X E L m (m.set i md2) (.Assign [.Name y py] (.ListComp elt [⟨tg, iter, ifs, 0⟩] scope pos) spos) (fSet i (fLc (own.map (·.2)) it g c f)) := by
  subst h1 h2
  refine ⟨PSimp (ps_setLc (g := tGD X.K X.mg m ts g) (tt := tT X.K X.mg EF m c) (te := tE X.K X.mg EF m (mdT n) f) hc (by rw [hN0]; exact Sc.nd) hy hyl hsw hi.pi (blkOk_by (by rw [hN0, hsc]; exact ok)) (fun s H C cl fp => (hg s H C cl fp).pg) (fun s H C cl fp => (ht s H C cl fp).pt) (fun s H C cl fp => (he s H C cl fp).pe) hs) fun D σ H h => ?_⟩
  obtain ⟨S0, H0, ρ, ⟨S, Fp, st⟩, p⟩ := h
  refine lcT_ok hts ⟨S, ρ, st.envM, (lift_post st p).postM fun d v S1 H1 fp s1 o hn hf k => ?_⟩
  refine k _ _ (StF.stM ((st.step s1).set hl o hn (fun a ha => st.1.hh.free (hf a ha)) fun j e' hj ej a ha z => ?_))
  obtain ⟨w, _, o'⟩ := st.2.1.at_ j e' ej
  obtain ⟨_, u, hu⟩ := o'.out ha
  rw [hf a z] at hu
  cases hu
/-- [] as a tree of any depth -/
theorem je_lstT (n : Nat) {md : Md} (h : md = mdT (n + 1) := by rfl) : JE X E m md (.List [] pos) (fOn gLstD fA0) := by
  subst h
  refine ⟨PEimp (pe_lst pa_nil) fun σ H Q h => ?_⟩
  obtain ⟨S, ρ, hm, hp⟩ := h
  exact ⟨by simp, fun p hn => hp _ S _ [p] (Step.hid hm.1 hn) (mdT_own.mpr ⟨p, [], [], [], rfl, rfl, rfl, hm.1.free hn, upd_same, rfl, rfl, fun j w e f a => by simp at a⟩) (by simp) (fun a z => by
    have : a = p := by simpa using z
    rw [this]; exact hn)⟩
/-- new addresses that a tree takes in -/
theorem new_apart {K : PySem.W.Frag} {mg : Str → Option Value} {m : Mds} {S0 H0 S H : Hp} {σ : L2.St} {ρ : Env} {F : Nat → List Addr} {fp : List Addr} (st : StF K mg m S0 H0 S F σ ρ H) (hf : ∀ a, a ∈ fp → H a = none) {a : Addr} (ha : a ∈ fp) : H0 a = none ∧ ∀ j d, ρ[j]? = some (some d) → a ∉ F j :=
  ⟨st.1.hh.free (hf a ha), fun j d ej z => by
    obtain ⟨w, _, o⟩ := st.2.1.at_ j d ej
    obtain ⟨_, u, hu⟩ := o.out z
    rw [hf a ha] at hu
    cases hu⟩
theorem OwnTr.app {K : PySem.W.Frag} {mg : Str → Option Value} {S H : Hp} {n : Nat} {f fp : List Addr} {v w : V} {us : List D} {d : D} (h : OwnTr K mg S H (n + 1) f v (.lst us)) (nd : f.Nodup) (on : OwnTr K mg S H n fp w d) (hn : fp.Nodup) (hx : ∀ a, a ∈ fp → a ∉ f) :
    ∃ (q : Addr) (ws : List V), v = .ref q ∧ H q = some (.lst ws) ∧ ws.length = us.length ∧ q ∈ f ∧ ∃ f', OwnTr K mg S (upd H q (.lst (ws ++ [w]))) (n + 1) f' v (.lst (us ++ [d])) ∧ f'.Nodup ∧ ∀ a, a ∈ f' → a ∈ f ∨ a ∈ fp := by
  obtain ⟨q, ws, ds, fps, eq, eds, ef, sq, hq, hl, hfl, hin⟩ := h
  cases eq; cases eds
  have hqf : q ∈ f := by rw [ef]; exact List.mem_cons_self
  have hqn : q ∉ fp := fun z => hx q z hqf
  have nd2 := nd
  rw [ef, List.nodup_cons] at nd2
  have q0 : ∀ a, a ∈ fps.flatten → a ≠ q := fun a ha z => nd2.1 (by rw [← z]; exact ha)
  refine ⟨q, ws, rfl, hq, hl, hqf, q :: (fps ++ [fp]).flatten, ⟨q, ws ++ [w], us ++ [d], fps ++ [fp], rfl, rfl, rfl, sq, upd_same, by simp [hl], by simp [hfl], fun j w' e' f' a b c => ?_⟩, ?_, fun a ha => ?_⟩
  · by_cases hj : j < us.length
    · rw [List.getElem?_append_left (by omega)] at a b c
      exact (hin j w' e' f' a b c).agree fun z hz => upd_ne (q0 z (flat_mem c hz))
    · have hjl := (List.getElem?_eq_some_iff.mp b).1
      rw [List.length_append] at hjl
      have : j = us.length := by simp at hjl; omega
      subst this
      rw [List.getElem?_concat_length] at b
      rw [← hl, List.getElem?_concat_length] at a
      rw [← hfl, List.getElem?_concat_length] at c
      cases a; cases b; cases c
      exact on.agree fun z hz => upd_ne fun zz => hqn (by rw [← zz]; exact hz)
  · rw [flat_snoc, List.nodup_cons]
    refine ⟨fun z => ?_, ?_⟩
    · rcases List.mem_append.mp z with z | z
      · exact nd2.1 z
      · exact hqn z
    · rw [List.nodup_append]
      exact ⟨nd2.2, hn, fun a ha b hb z => hx b hb (by rw [ef, ← z]; exact List.mem_cons_of_mem _ ha)⟩
  · rw [flat_snoc] at ha
    rcases List.mem_cons.mp ha with rfl | ha
    · exact .inl hqf
    · rcases List.mem_append.mp ha with z | z
      · exact .inl (by rw [ef]; exact List.mem_cons_of_mem _ z)
      · exact .inr z
/-- a list within the tree of slot i is changed in its place -/
theorem inner_change {K : PySem.W.Frag} {mg : Str → Option Value} {m : Mds} {S0 H0 S H H' : Hp} {σ : L2.St} {ρ : Env} {F : Nat → List Addr} {n i k : Nat} {p : Addr} {vs : List V} {xs : List D} {fps : List (List Addr)} {w : V} {d' : D} {f f' fp : List Addr}
    (st : StF K mg m S0 H0 S F σ ρ H) (hmd : IsTr (n + 1) (mdAt m i)) (exs : ρ[i]? = some (some (.lst xs))) (e1 : σ[i]? = some (some (.ref p))) (oa : OwnAt K mg S H (F i) (.ref p) (.lst xs) (mdAt m i)) (ef : F i = p :: fps.flatten) (sp : S p = none) (hp : H p = some (.lst vs)) (hl : vs.length = xs.length) (hfl : fps.length = xs.length)
    (hin : ∀ (j : Nat) (w : V) (e : D) (f : List Addr), vs[j]? = some w → xs[j]? = some e → fps[j]? = some f → OwnTr K mg S H n f w e) (hw : vs[k]? = some w) (hf : fps[k]? = some f) (hch : ∀ a, a ∉ f → H' a = H a)
    (on : OwnTr K mg S H' n f' w d') (hn : f'.Nodup) (hf' : ∀ a, a ∈ f' → a ∈ f ∨ a ∈ fp) (hnew : ∀ a, a ∈ fp → H0 a = none ∧ ∀ j d, ρ[j]? = some (some d) → a ∉ F j) :
    StM K mg m S0 H0 σ (ρ.set i (some (.lst (xs.set k d')))) H' := by
  have nd := st.2.1.nd i _ exs
  have nd2 := nd
  rw [ef, List.nodup_cons, nd_split hf] at nd2
  have hk : k < xs.length := by have := (List.getElem?_eq_some_iff.mp hw).1; omega
  have ff : ∀ a, a ∈ f → a ∈ fps.flatten := fun a ha => flat_mem hf ha
  have hpf : p ∉ f := fun z => nd2.1 (ff p z)
  have up : ∀ a, a ∈ (fps.set k f').flatten → a ∈ f' ∨ a ∈ (fps.set k []).flatten := fun a ha => by
    rcases (set_flat hf a).mp ha with z | z
    · exact .inl z
    · exact .inr ((set_flat hf a).mpr (.inr z))
  have dn : ∀ a, a ∈ (fps.set k []).flatten → a ∈ fps.flatten := fun a ha => by
    rcases (set_flat hf a).mp ha with z | ⟨j, h, _, z1, z2⟩
    · cases z
    · exact flat_mem z1 z2
  have ap : ∀ a, a ∈ f' → a ∉ (fps.set k []).flatten := fun a ha hb => by
    rcases hf' a ha with z | z
    · exact nd2.2.2.2 a z hb
    · exact (hnew a z).2 i _ exs (by rw [ef]; exact List.mem_cons_of_mem _ (dn a hb))
  have evs : vs.set k w = vs := by
    refine List.ext_getElem? fun j => ?_
    rw [List.getElem?_set]
    split
    · rename_i hj; subst hj; rw [if_pos (by omega)]; exact hw.symm
    · rfl
  have ow : OwnAt K mg S H' (p :: (fps.set k f').flatten) (.ref p) (.lst (xs.set k d')) (mdAt m i) := by
    refine hmd.back oa (OwnTr.setT (f := []) (w := w) sp hl hfl (fun j w' e g hj a b c => (hin j w' e g a b c).agree fun z hz => hch z fun zz => ?_) (by rw [evs, hch p hpf]; exact hp) on hk)
    exact nd2.2.2.2 z zz ((set_flat hf z).mpr (.inr ⟨j, g, hj, c, hz⟩))
  refine StF.stM (st.put exs e1 (fun a ha => hch a fun z => ha (by rw [ef]; exact List.mem_cons_of_mem _ (ff a z))) ow ?_ fun a ha => ?_)
  · rw [List.nodup_cons]
    refine ⟨fun z => ?_, ?_⟩
    · rcases up p z with z | z
      · rcases hf' p z with w | w
        · exact hpf w
        · exact (hnew p w).2 i _ exs (by rw [ef]; exact List.mem_cons_self)
      · exact nd2.1 (dn p z)
    · have fk2 : (fps.set k f')[k]? = some f' := List.getElem?_set_self (by omega)
      rw [nd_split fk2, List.set_set]
      exact ⟨hn, nd2.2.2.1, ap⟩
  · rcases List.mem_cons.mp ha with rfl | ha
    · exact .inl (by rw [ef]; exact List.mem_cons_self)
    · rcases up a ha with z | z
      · rcases hf' a z with w | w
        · exact .inl (by rw [ef]; exact List.mem_cons_of_mem _ (ff a w))
        · exact .inr ⟨(hnew a w).1, fun j' d' _ ej => (hnew a w).2 j' d' ej⟩
      · exact .inl (by rw [ef]; exact List.mem_cons_of_mem _ (dn a z))
theorem js_app2T (n i : Nat) {md1 : Md} (hj : JE X E m .sh j fj) (he : JE X E m md1 e f) (h1 : md1 = mdT n := by rfl) (hmd : IsTr (n + 2) (mdAt m i) := by first | exact .inl rfl | exact .inr ⟨_, rfl⟩) (hN : X.N[i]? = some x := by rfl) (hv : Vis X.env.scope x := by first | exact Or.inl rfl | exact Or.inr (Or.inl rfl) | exact Or.inr (Or.inr rfl))
    (hd : (x == ("__debug__" : Str)) = false := by decide) (hcd : (x == ("__classdict__" : Str)) = false := by decide)
    (hs : swapsWith (.Call (.Attribute (.Subscript (.Name x p1) j p4) "append" p2) [e] [] p3) none pos.line X.env = pure false := by rfl) (hsl : PlainIx j := by intro _ _; rfl)
    (hpe : ∀ {to te : TE}, PE X (.Subscript (.Name x p1) j p4) to → PE X e te → PE X (.Call (.Attribute (.Subscript (.Name x p1) j p4) "append" p2) [e] [] p3) (tBM X.K "list" rAppend to (tCons te tNil)) := by
      intro to te ho he
      exact pe_bm PySem.F.plainAttrs_list PySem.F.slot_list_append PySem.F.type_list_append mt_append ho (pa_cons he pa_nil)) :
    JS X E L m m (.Expr (.Call (.Attribute (.Subscript (.Name x p1) j p4) "append" p2) [e] [] p3) pos) (fApp2 i fj f) := by
  subst h1
  refine ⟨PSimp (ps_expr (hpe (pe_ix ix_seq (pe_var hN hv hd hcd) hj.pe hsl) he.pe) hs) fun Dn σ H h => ?_⟩
  obtain ⟨S0, H0, ρ, ⟨S, Fp, st⟩, p⟩ := h
  unfold fApp2 at p
  split at p
  · rename_i xs exs
    obtain ⟨v0, e0, _, ot, _⟩ := st.ownT hmd exs
    obtain ⟨pa, vs, ds, fps, rfl, eds, _⟩ := id ot
    refine ⟨_, e0, S, ρ, st.envM, (lift_post st p).post fun dy vy S1 H1 s1 ry k1 => ?_⟩
    cases dy with
    | int z =>
      cases ry
      have k1 : SPost X.K X.mg E L S0 H0 m (match ixN xs.length z with
        | some k => (match xs[k]? with
          | some (.lst us) => lift (f ρ) ρ fun d => if szOk (us.length + 1) = true then .ok (.nx (ρ.set i (some (.lst (xs.set k (.lst (us ++ [d]))))))) else .er
          | _ => .er)
        | none => .er) Dn := k1
      cases ek : ixN xs.length z with
      | none => rw [ek] at k1; exact k1.elim
      | some k =>
        rw [ek] at k1
        simp only at k1
        split at k1
        · rename_i us eu
          have st1 := st.step s1
          obtain ⟨v1, e1', oa, ot, nd⟩ := st1.ownT hmd exs
          rw [e0] at e1'
          cases e1'
          obtain ⟨pa', vs, ds, fps, eq, eds, ef, sp, hp, hl, hfl, hin⟩ := id ot
          cases eq; cases eds
          have hkl := (ixN_seq ek).2.1
          have fk : fps[k]? = some (fps[k]'(by omega)) := List.getElem?_eq_getElem (by omega)
          have vk : vs[k]? = some (vs[k]'(by omega)) := List.getElem?_eq_getElem (by omega)
          have oc := hin k _ _ _ vk eu fk
          obtain ⟨q, ws, _, _, eqq, _, _, _, hqq, hlq, _⟩ := id oc
          have hat : L2.atI vs z = some (V.ref q) := by
            unfold L2.atI
            rw [hl, ek]
            show vs[k]? = _
            rw [vk, eqq]
          refine .inl ⟨pa, vs, z, V.ref q, rfl, rfl, .inl (.inl hp), hat, ?_⟩
          refine ⟨.inl ⟨rfl, ws, .inl (.inl hqq)⟩, S1, ρ, st1.envM, (lift_post st1 k1).postM fun d v S2 H2 fp s2 o hn hf k2 => ?_⟩
          split at k2
          · rename_i hz
            have st2 := st1.step s2
            have on := mdT_own.mp o
            have na : ∀ a, a ∈ fp → H0 a = none ∧ ∀ j d, ρ[j]? = some (some d) → a ∉ Fp j := fun a ha => new_apart st1 hf ha
            have ffi : ∀ a, a ∈ (fps[k]'(by omega)) → a ∈ Fp i := fun a ha => by rw [ef]; exact List.mem_cons_of_mem _ (flat_mem fk ha)
            have nd2 := nd
            rw [ef, List.nodup_cons, nd_split fk] at nd2
            obtain ⟨q', ws', eq', hq', hl', hqf, f', ot', hn', hf'⟩ := (oc.step s2).app nd2.2.1 on hn fun a ha hb => (na a ha).2 i _ exs (ffi a hb)
            obtain rfl : q' = q := by rw [eqq] at eq'; injection eq' with z; exact z.symm
            obtain ⟨v2, e2', oa2, ot2, _⟩ := st2.ownT hmd exs
            rw [e0] at e2'
            cases e2'
            refine ⟨q', ws', v, rfl, rfl, hq', by rw [hl']; exact szOk_lt hz, k2 σ _ ?_⟩
            exact inner_change (n := n + 1) st2 hmd exs e0 oa2 ef (s2.out sp hp) (s2.hh _ _ hp) hl hfl (fun j w e f a b c => (hin j w e f a b c).step s2) vk fk (fun a ha => upd_ne fun z => ha (by rw [z]; exact hqf)) ot' hn' hf' na
          · exact k2.elim
        · exact k1.elim
    | _ => exact k1.elim
  · exact p.elim
end
end Da
namespace Da
open PySem PySem.Spec L2
section
variable {X : Cx} {E : WX} {L : Lp} {m m1 m2 m3 : Mds} {md : Md} {a b e j : Expr} {es : List Expr} {f fa fb fj : Env → Res D} {g : Env → Res Bool} {pos p p1 p2 p3 p4 : Pos} {x y : Str}
/-- a slice of an own list: a new list of one's own -/
theorem je_cutLO (i : Nat) {l h : Option Expr} {fl fh : Env → Res (Option Int)} (hl : JO X E m l fl) (hh : JO X E m h fh) (hmd : IsOw (mdAt m i) := by first | exact .inl rfl | exact .inr ⟨_, rfl⟩) (hN : X.N[i]? = some x := by rfl) (hv : Vis X.env.scope x := by first | exact Or.inl rfl | exact Or.inr (Or.inl rfl) | exact Or.inr (Or.inr rfl)) (hd : (x == ("__debug__" : Str)) = false := by decide)
    (hcd : (x == ("__classdict__" : Str)) = false := by decide) : JE X E m .ow (.Subscript (.Name x p) (.Slice l h none p2) pos) (fCut dCutL (fV i) fl fh) := by
  refine ⟨PEimp (pe_slice sl_all (pe_var hN hv hd hcd) hl.po hh.po) fun σ H Q q => ?_⟩
  obtain ⟨S, ρ, hm, hp⟩ := q
  obtain ⟨hsub, F, en⟩ := id hm
  unfold fCut fV at hp
  split at hp
  · rename_i d ed
    obtain ⟨v, e1, o⟩ := en.at_ i d ed
    obtain ⟨q, vs, ds, rfl, rfl, e3, e4, e5, e6⟩ : ∃ q vs ds, v = .ref q ∧ d = .lst ds ∧ F i = [q] ∧ S q = none ∧ H q = some (.lst vs) ∧ RepL X.K X.mg S vs ds := by
      rcases hmd with hmd | ⟨q0, hmd⟩
      · rw [hmd] at o
        exact o
      · rw [hmd] at o
        exact o.2
    have hp : Post X.K X.mg (WE E σ) S H .ow ((fl ρ).bind fun l => (fh ρ).bind fun h => dCutL (.lst ds) l h) Q := hp
    refine ⟨_, e1, S, ρ, hm, (Post.bind hp).imp fun lo S2 H2 s2 k2 => ⟨S2, ρ, hm.step s2, (Post.bind k2).imp fun hi S3 H3 s3 k3 => ?_⟩⟩
    exact .inl ⟨q, vs, rfl, .inl (.inl ((s2.trans s3).hh _ _ e5)), fun p hp => Post.own k3 s3.sub (repl_cut (e6.mono (s2.trans s3).ss) lo hi) hp⟩
  · exact hp.elim
end
end Da
namespace Da
open PySem PySem.Spec L2
end Da
namespace Da
open PySem PySem.Spec L2
def lcGoX (g : D → Env → Res Env) (fx : Env → Res (D × Env)) (vs : List Nat) : Env → List D → Res (List D × Env)
  | ρ, [] => .ok ([], ρ)
  | ρ, x :: xs => match g x ρ with
    | .ok ρ1 => (match fx ρ1 with
      | .ok (y, ρ2) => (match lcGoX g fx vs (wipeD ρ2 vs) xs with
        | .ok (ys, ρe) => .ok (y :: ys, ρe)
        | _ => .er)
      | _ => .er)
    | _ => .er
def fSetLcX (i : Nat) (vs : List Nat) (it : Env → Res (List D)) (g : D → Env → Res Env) (fx : Env → Res (D × Env)) : FS := fun ρ => lift (it ρ) ρ fun xs => if szOk xs.length = true then (match lcGoX g fx vs (wipeD ρ vs) xs with
  | .ok (ys, ρe) => .ok (.nx (ρe.set i (some (.lst ys))))
  | _ => .er) else .er
section
variable {K : PySem.W.Frag} {mg : Str → Option Value} {m : Mds} {S0 H0 S S' H H' : Hp} {σ : L2.St} {ρ : Env} {F : Nat → List Addr} {D0 : Addr} {o : HO}
theorem StF.guard (st : StF K mg m S0 H0 S F σ ρ H) (hD : H D0 = some o) (hS : S D0 = none) (hF : ∀ j d, ρ[j]? = some (some d) → D0 ∉ F j) : StF K mg m S0 (upd H0 D0 o) S F σ ρ H := by
  obtain ⟨s, en, nw⟩ := st
  refine ⟨⟨fun a u e => ?_, s.ss, s.sub, fun a x => ?_⟩, en, fun i d ei a ha => ?_⟩
  · by_cases h : a = D0
    · subst h; rw [upd_same] at e; rw [hD]; exact e
    · rw [upd_ne h] at e; exact s.hh a u e
  · have h : a ≠ D0 := fun z => x (by rw [z]; exact hS)
    rw [upd_ne h]
    exact s.new a x
  · have h : a ≠ D0 := fun z => hF i d ei (by rw [← z]; exact ha)
    rw [upd_ne h]
    exact nw i d ei a ha
theorem StF.unguard (st : StF K mg m S0 (upd H0 D0 o) S F σ ρ H) (h0 : H0 D0 = none) (hS0 : S0 D0 = none) : StF K mg m S0 H0 S F σ ρ H ∧ H D0 = some o ∧ S D0 = none ∧ ∀ j d, ρ[j]? = some (some d) → D0 ∉ F j := by
  obtain ⟨s, en, nw⟩ := st
  refine ⟨⟨⟨fun a u e => ?_, s.ss, s.sub, fun a x => ?_⟩, en, fun i d ei a ha => ?_⟩, s.hh _ _ upd_same, ?_, fun j d ej z => ?_⟩
  · have h : a ≠ D0 := fun z => by rw [z, h0] at e; cases e
    exact s.hh a u (by rw [upd_ne h]; exact e)
  · rcases s.new a x with z | z
    · exact .inl z
    · by_cases h : a = D0
      · subst h; rw [upd_same] at z; cases z
      · rw [upd_ne h] at z; exact .inr z
  · by_cases h : a = D0
    · subst h; exact h0
    · have := nw i d ei a ha
      rw [upd_ne h] at this; exact this
  · cases e : S D0 with
    | none => rfl
    | some u =>
      rcases s.new D0 (by rw [e]; exact fun z => nomatch z) with z | z
      · exact absurd hS0 z
      · rw [upd_same] at z; cases z
  · have := nw j d ej D0 z
    rw [upd_same] at this
    cases this
/-- what is hidden is written -/
theorem StF.hidden (st : StF K mg m S0 H0 S F σ ρ H) (hS : S D0 = none) (h0 : H0 D0 = none) (hF : ∀ j d, ρ[j]? = some (some d) → D0 ∉ F j) : StF K mg m S0 H0 S F σ ρ (upd H D0 o) := by
  obtain ⟨s, en, nw⟩ := st
  refine ⟨s.write hS h0, ⟨en.len, fun i d ei => ?_, en.nd, en.apart⟩, nw⟩
  obtain ⟨v, e1, o1⟩ := en.at_ i d ei
  exact ⟨v, e1, o1.other hS (hF i d ei)⟩
/-- from the slots of a comprehension back to the slots around -/
theorem StF.unwipe {vs : List Nat} (st : StF K mg m S0 H0 S F (L2.wipe σ vs) ρ H) : StF K mg m S0 H0 S F σ ρ H := by
  obtain ⟨s, en, nw⟩ := st
  refine ⟨s, ⟨by rw [en.len, L2.wipe_length], fun i d ei => ?_, en.nd, en.apart⟩, nw⟩
  obtain ⟨v, e1, o1⟩ := en.at_ i d ei
  refine ⟨v, ?_, o1⟩
  rw [wipe_at] at e1
  split at e1
  · cases e1
  · exact e1
theorem StF.wipe (st : StF K mg m S0 H0 S F σ ρ H) (vs : List Nat) : StF K mg m S0 H0 S F (L2.wipe σ vs) (wipeD ρ vs) H := by
  obtain ⟨s, en, nw⟩ := st
  refine ⟨s, en.wipe vs, fun i d ei => nw i d ?_⟩
  induction vs with
  | nil => exact ei
  | cons v vs ih =>
    unfold wipeD at ei
    rw [List.getElem?_set] at ei
    split at ei
    · split at ei <;> cases ei
    · exact ih ei
end
section
variable {X : Cx} {E : WX} {L : Lp} {m : Mds} {ts : List Nat} {N0 ps0 : List Str} {sc0 : Scope} {elt tg iter e j : Expr} {scope : Scope} {pos p1 p2 p3 p4 : Pos} {it : Env → Res (List D)} {g : D → Env → Res Env} {fx : Env → Res (D × Env)} {x : Str}
/-- the state under way -/
def LcXI (K : PySem.W.Frag) (mg : Str → Option Value) (m : Mds) (g : D → Env → Res Env) (fx : Env → Res (D × Env)) (vs : List Nat) (S0 H0 S1 : Hp) (σ : L2.St) (xs ys : List D) (ρe : Env) (D0 : Addr) (i : Nat) (H : Hp) : Prop :=
  ∃ (S2 : Hp) (F2 : Nat → List Addr) (ρw : Env) (ws : List V) (ds rest : List D), StF K mg m S0 H0 S2 F2 (L2.wipe σ vs) ρw H ∧ Same S1 S2 ∧ S2 D0 = none ∧ H D0 = some (.lst ws) ∧ (∀ j d, ρw[j]? = some (some d) → D0 ∉ F2 j) ∧ RepL K mg S2 ws ds ∧
    lcGoX g fx vs ρw (xs.drop i) = .ok (rest, ρe) ∧ ys = ds ++ rest ∧ ds.length ≤ i
theorem js_setLcX (i : Nat) {y : Str} {py spos : Pos} (Sc : FnScope N0 ps0 sc0) (own : List (Str × Nat)) (hi : JI X E m tg iter it)
    (hg : ∀ (s : Shared) (H : Hp) (C : Addr) (cl : List (Str × Addr)) (fp : List Addr), JG (X.blk s H scope (compEnvC scope cl C X.env) fp) m ts tg g) (he : ∀ (s : Shared) (H : Hp) (C : Addr) (cl : List (Str × Addr)) (fp : List Addr), JX (X.blk s H scope (compEnvC scope cl C X.env) fp) m elt fx) (hl : i < m.length := by first | decide | simp) (hy : X.N[i]? = some y := by rfl) (hyl : X.env.scope.names.lookup y = some .local := by rfl)
    (hsw : swapsWith (.ListComp elt [⟨tg, iter, [], 0⟩] scope pos) (some (.Name y py)) spos.line X.env = pure true := by rfl) (hc : X.calm = true := by rfl) (hN0 : X.N = N0 := by rfl) (hsc : X.env.scope = sc0 := by rfl) (ok : blkC N0 sc0 scope own = true := by decide +kernel) (hts : ∀ t ∈ ts, t ∈ own.map (·.2) := by decide)
    (hs : ∀ x, foldedSetIterable iter X.env x = pure x := by intro _; rfl) : JS X E L m (m.set i .ow) (.Assign [.Name y py] (.ListComp elt [⟨tg, iter, [], 0⟩] scope pos) spos) (fSetLcX i (own.map (·.2)) it g fx) := by
  refine ⟨PSimp (ps_setLc (g := tGD X.K X.mg m ts g) (tt := tT X.K X.mg EF m fYes) (te := tX X.K X.mg m fx) hc (by rw [hN0]; exact Sc.nd) hy hyl hsw hi.pi (blkOk_by (by rw [hN0, hsc]; exact ok)) (fun s H C cl fp => (hg s H C cl fp).pg) (fun s H C cl fp => jts_nil.pt) (fun s H C cl fp => (he s H C cl fp).pe) hs) fun D σ H h => ?_⟩
  obtain ⟨S0, H0, ρ, ⟨S, Fp, st⟩, p⟩ := h
  unfold fSetLcX at p
  refine ⟨S, ρ, st.envM, (lift_post st p).imp fun xs S1 H1 s1 k J w D0 hD => ?_⟩
  split at k
  rotate_left
  · exact k.elim
  rename_i hz
  have hz := szOk_ok hz
  split at k
  rotate_left
  · exact k.elim
  rename_i ys ρe eg
  have st1 := st.step s1
  have h00 : H0 D0 = none := st1.1.hh.free hD
  have s0 : S0 D0 = none := (st1.1.ss.trans st1.1.sub).free hD
  let vs := own.map (·.2)
  have dF : ∀ {σ : L2.St} {ρ' : Env} {H : Hp} {S : Hp} {F : Nat → List Addr}, StF X.K X.mg m S0 H0 S F σ ρ' H → H D0 = none → ∀ j d, ρ'[j]? = some (some d) → D0 ∉ F j := fun z hz j d ej ha => by
    obtain ⟨v, _, o⟩ := z.2.1.at_ j d ej
    obtain ⟨_, u, hu⟩ := o.out ha
    rw [hz] at hu; cases hu
  have stw := st1.wipe vs
  refine ⟨fun i u H => u = xs.length - i ∧ i ≤ xs.length ∧ LcXI X.K X.mg m g fx vs S0 H0 S1 σ xs ys ρe D0 i H, ⟨xs.length, by simp, Nat.zero_le _, S1, Fp, wipeD ρ vs, [], [], ys, stw.hidden (st1.1.sub.free hD) h00 (dF stw hD), Same.refl _, st1.1.sub.free hD, upd_same, dF stw hD, .nil, eg, rfl, Nat.le_refl _⟩, ?_⟩
  rintro i' u H2 ⟨rfl, hi', S2, F2, ρw, ws, ds, rest, st2, ss2, hs2, hd2, hF2, rv, el, ey, hn⟩
  by_cases hlt : i' < xs.length
  · obtain ⟨hgo, hyl'⟩ := w.go i' xs[i'] S2 H2 (List.getElem?_eq_getElem hlt) ss2 st2.1.sub
    refine .inr ⟨hgo, LcXI X.K X.mg m g fx vs S0 H0 S1 σ xs ys ρe D0 (i' + 1), fun H' z => ⟨xs.length - (i' + 1), by omega, rfl, hlt, z⟩, fun x H3 y => ?_⟩
    obtain ⟨S3, s3, r3⟩ := hyl' x H3 y
    rw [List.drop_eq_getElem_cons hlt] at el
    unfold lcGoX at el
    cases eg1 : g xs[i'] ρw with
    | ex c' fs => rw [eg1] at el; cases el
    | er => rw [eg1] at el; cases el
    | ok ρ1 =>
      rw [eg1] at el
      simp only at el
      have st3 := st2.step s3
      have hd3 := s3.hh _ _ hd2
      have hs3 := s3.out hs2 hd2
      refine ⟨_, _, S3, F2, ρw, xs[i'], st3.guard hd3 hs3 hF2, r3, ?_⟩
      rw [eg1]
      intro σ4 S4 F4 H4 st4 s4 hfr
      have hw : L2.wipe σ4 vs = L2.wipe σ vs := wipe_eq (by rw [hfr.1, L2.wipe_length]) hfr.2 hts
      refine ⟨hw, S4, ρ1, st4.envM, ?_⟩
      intro S5 H5 s5
      have st5 := st4.step s5
      show tX X.K X.mg m fx σ4 H5 _
      refine ⟨_, _, S5, F4, ρ1, st5, ?_⟩
      cases ef : fx ρ1 with
      | ex c' fs => rw [ef] at el; cases el
      | er => rw [ef] at el; cases el
      | ok yr =>
        obtain ⟨y', ρ2⟩ := yr
        rw [ef] at el
        simp only at el
        intro v S6 F6 H6 ss6 st6 rd
        cases er : lcGoX g fx (own.map (·.2)) (wipeD ρ2 (own.map (·.2))) (xs.drop (i' + 1)) with
        | ex c' fs => rw [er] at el; cases el
        | er => rw [er] at el; cases el
        | ok rr =>
          obtain ⟨rest', ρe'⟩ := rr
          rw [er] at el
          cases el
          obtain ⟨st6', hd6, hs6, hF6⟩ := st6.unguard h00 s0
          have st7 := st6'.wipe vs
          rw [hw] at st7
          have hF7 : ∀ j d, (wipeD ρ2 vs)[j]? = some (some d) → D0 ∉ F6 j := fun j d ej => by
            have : ρ2[j]? = some (some d) := by
              have key : ∀ (vs : List Nat), (wipeD ρ2 vs)[j]? = some (some d) → ρ2[j]? = some (some d) := fun vs => by
                induction vs with
                | nil => exact id
                | cons v vs ih =>
                  intro ei
                  unfold wipeD at ei
                  rw [List.getElem?_set] at ei
                  split at ei
                  · split at ei <;> cases ei
                  · exact ih ei
              exact key vs ej
            exact hF6 j d this
          have ss26 : Same S2 S6 := s3.ss.trans ((s4.trans s5).ss.trans ss6)
          refine ⟨ws, hd6, by rw [rv.len]; omega, S6, F6, wipeD ρ2 vs, ws ++ [v], ds ++ [y'], rest', st7.hidden hs6 h00 hF7, ss2.trans ss26, hs6, upd_same, hF7, (rv.mono ss26).snoc rd, er, by rw [ey]; simp, by rw [List.length_append]; simp; omega⟩
  · have e : i' = xs.length := by omega
    subst e
    rw [List.drop_length] at el
    unfold lcGoX at el
    cases el
    rw [List.append_nil] at ey
    subst ey
    refine .inl ⟨w.stop S2 H2 ss2 st2.1.sub, ?_⟩
    refine k _ _ (StF.stM (st2.unwipe.set hl (md := .ow) (fp := [D0]) ⟨D0, ws, _, rfl, rfl, rfl, hs2, hd2, rv⟩ (by simp) (fun a ha => ?_) fun j e' hj ej a ha z => ?_))
    · have : a = D0 := by simpa using ha
      rw [this]; exact h00
    · have : a = D0 := by simpa using z
      rw [this] at ha
      exact hF2 j e' ej ha
end
end Da
namespace Da
open PySem PySem.Spec L2
/-- the different ones -/
def dedupI : List Int → List Int
  | [] => []
  | x :: xs => if x ∈ xs then dedupI xs else x :: dedupI xs
theorem mem_dedupI {k : Int} : ∀ {xs : List Int}, k ∈ dedupI xs ↔ k ∈ xs
  | [] => Iff.rfl
  | x :: xs => by
    have ih := mem_dedupI (k := k) (xs := xs)
    unfold dedupI
    split
    · rename_i h
      rw [ih, List.mem_cons]
      exact ⟨.inr, fun z => z.elim (fun e => by rw [e]; exact h) id⟩
    · rw [List.mem_cons, List.mem_cons, ih]
theorem nodup_dedupI : ∀ {xs : List Int}, (dedupI xs).Nodup
  | [] => List.nodup_nil
  | x :: xs => by
    unfold dedupI
    split
    · exact nodup_dedupI
    · rename_i h
      exact List.nodup_cons.mpr ⟨fun z => h (mem_dedupI.mp z), nodup_dedupI⟩
theorem dedupI_le : ∀ {xs : List Int}, (dedupI xs).length ≤ xs.length
  | [] => Nat.le_refl _
  | x :: xs => by
    have := dedupI_le (xs := xs)
    unfold dedupI
    split
    · rw [List.length_cons]; omega
    · rw [List.length_cons, List.length_cons]; omega
theorem dedupI_nodup : ∀ {xs : List Int}, (dedupI xs).length = xs.length ↔ xs.Nodup
  | [] => by simp [dedupI]
  | x :: xs => by
    have ih := dedupI_nodup (xs := xs)
    have le := dedupI_le (xs := xs)
    unfold dedupI
    rw [List.nodup_cons]
    split
    · rename_i h
      rw [List.length_cons]
      exact ⟨fun z => by omega, fun z => absurd h z.1⟩
    · rename_i h
      rw [List.length_cons, List.length_cons]
      exact ⟨fun z => ⟨h, ih.mp (by omega)⟩, fun z => by rw [ih.mpr z.2]⟩
theorem same_len {as bs : List Int} (ha : as.Nodup) (hb : bs.Nodup) (h : ∀ k, k ∈ as ↔ k ∈ bs) : as.length = bs.length :=
  Nat.le_antisymm (ha.length_le_of_subset fun k hk => (h k).mp hk) (hb.length_le_of_subset fun k hk => (h k).mpr hk)
def lenSetOf (xs : List D) : Res D := match intsD xs with
    | some ns => if ns.length ≤ 1000 then .ok (.int (dedupI ns).length) else .er
    | none => .er
def dLenSet : D → Res D
  | .tup xs => lenSetOf xs
  | .lst xs => lenSetOf xs
  | _ => .er
/-- what a set from a list holds -/
theorem firstMet_set (val : Nat → Int) : ∀ i, (PyProof.Rows.firstMet val i).Nodup ∧ ∀ k, k ∈ PyProof.Rows.firstMet val i ↔ ∃ j, j < i ∧ val j = k
  | 0 => ⟨by rw [PyProof.Rows.firstMet_zero]; exact List.nodup_nil, fun k => by rw [PyProof.Rows.firstMet_zero]; exact ⟨fun h => (by cases h), fun ⟨j, h, _⟩ => (by omega)⟩⟩
  | i + 1 => by
    obtain ⟨nd, mm⟩ := firstMet_set val i
    rw [PyProof.Rows.firstMet_succ]
    have key : ∀ k, (∃ j, j < i + 1 ∧ val j = k) ↔ (∃ j, j < i ∧ val j = k) ∨ val i = k := fun k => by
      constructor
      · rintro ⟨j, h, e⟩
        by_cases hj : j = i
        · subst hj; exact .inr e
        · exact .inl ⟨j, by omega, e⟩
      · rintro (⟨j, h, e⟩ | e)
        · exact ⟨j, by omega, e⟩
        · exact ⟨i, by omega, e⟩
    unfold PyProof.Rows.step_dedup
    split
    · rename_i h
      obtain ⟨y, hy, e⟩ := List.any_eq_true.mp h
      have e : y = val i := by simpa using e
      subst e
      refine ⟨nd, fun k => ?_⟩
      rw [key, mm k]
      exact ⟨.inl, fun z => z.elim id fun e => by rw [← e]; exact (mm _).mp hy⟩
    · rename_i h
      have hn : val i ∉ PyProof.Rows.firstMet val i := fun z => h (List.any_eq_true.mpr ⟨_, z, by simp⟩)
      refine ⟨List.nodup_append.mpr ⟨nd, by simp, fun a ha b hb => ?_⟩, fun k => ?_⟩
      · rw [List.mem_singleton] at hb
        subst hb
        exact fun e => hn (e ▸ ha)
      · rw [List.mem_append, List.mem_singleton, key, mm k]
        exact ⟨fun z => z.elim .inl fun e => .inr e.symm, fun z => z.elim .inl fun e => .inr e.symm⟩
theorem intsD_some : ∀ {xs : List D} {ns : List Int}, intsD xs = some ns → xs = ns.map D.int
  | [], ns, e => by cases e; rfl
  | x :: xs, ns, e => by
    unfold intsD at e
    cases x with
    | int i =>
      simp only at e
      cases e2 : intsD xs with
      | none => rw [e2] at e; cases e
      | some r =>
        rw [e2] at e
        cases e
        rw [intsD_some e2]
        rfl
    | _ => simp only at e; cases e
section
variable {X : Cx} {E : WX} {m : Mds} {a : Expr} {fa : Env → Res D} {pos p p2 q : Pos}
def tLenSetT (K : PySem.W.Frag) (ta : TE) : TE := fun σ H Q => ta σ H fun x H1 => ∃ (l : Addr) (ns : List Int), x = V.ref l ∧ (SqT K H1 l (ns.map V.int) ∨ SqL K H1 l (ns.map V.int)) ∧ ns.length ≤ 1000 ∧ Q (.int (dedupI ns).length) H1
theorem pe_lenSetT {ta : TE} (hc : X.calm = true) (hg : Gl X "len") (hm : X.mg "len" = none) (hg2 : Gl X "set") (hm2 : X.mg "set" = none) (ha : PE X a ta)
    (na : starEach [a] X.env = (false, eval a X.env) :: starEach [] X.env := by rfl) : PE X (.Call (.Name "len" p) [.Call (.Name "set" p2) [a] [] q] [] pos) (tLenSetT X.K ta) := by
  refine ⟨fun pins s σ H Q I h => ?_⟩
  refine PyProof.Rows.Call_ (ld_blt I hg hm PySem.boot_len ?_)
  refine PyProof.Rows.callWith_builtin1 (PyProof.Rows.args_cons ?_ rfl) rfl rfl
  refine PyProof.Rows.Call_ (ld_blt I hg2 hm2 PyProof.Rows.boot_set ?_)
  refine PyProof.Rows.callWith_type1 (PyProof.Rows.args_cons (thn (ha.run pins s σ H _ I h) fun v s1 ⟨x, H1, I1, r1, q1⟩ => PyProof.Rows.args_nil ?_) na) na rfl
  obtain ⟨l, ns, rfl, hq, h1, q1⟩ := q1
  cases r1
  rcases hq with hq | hq
  case inr =>
    obtain ⟨its, r, pl, hz⟩ := I1.list hq
    have ri := r.ints
    have hil : its.length = ns.length := by simpa using ri.length
    have le := dedupI_le (xs := ns)
    obtain ⟨o, no, ho, hoc, _, hod⟩ := pl
    refine PySem.call_set_list (ns := ns) (I1.ok.hd hc) ⟨o, ho, hoc, no, hod⟩ (by simpa using ri) (by rw [List.size_toArray]; unfold scanBound; omega) fun h' tk hS hk => ?_
    refine PyProof.Rows.args_nil ?_
    obtain ⟨o, es, ep, t, ho, hex, hd, _, _, _, hf, hn⟩ := hS
    have hlen : es.size = (dedupI ns).length := by
      rw [hn]
      obtain ⟨nd, mm⟩ := firstMet_set (fun i => ns.getD i 0) its.toArray.size
      refine same_len nd nodup_dedupI fun k => ?_
      rw [mm k, mem_dedupI, List.size_toArray, hil, List.mem_iff_getElem?]
      exact ⟨fun ⟨j, h, e⟩ => ⟨j, by rw [List.getElem?_eq_getElem h, ← e, List.getD_eq_getElem?_getD, List.getElem?_eq_getElem h]; rfl⟩, fun ⟨j, e⟩ => ⟨j, (List.getElem?_eq_some_iff.mp e).1, by rw [List.getD_eq_getElem?_getD, e]; rfl⟩⟩
    have I2 : Inv X pins σ H1 { s1 with heap := h', toks := tk } := I1.kept fun b o e => hk b o (Heap.lt_size e) e
    refine call_len_set ho hex hd hf (by rw [hlen] <;> omega) ⟨.int (dedupI ns).length, H1, I2.tok _, ⟨_, by rw [hlen]⟩, q1⟩
  obtain ⟨its, r, pl, hz⟩ := I1.tuple hq
  refine call_set_tupI (ns := ns) (I1.ok.hd hc) pl (by simpa using r.ints) (by unfold scanBound; omega) fun h' tk c hS _ hk => ?_
  refine PyProof.Rows.args_nil ?_
  obtain ⟨o, es, ep, t, ho, hex, hd, _, hnd, hmem, _, hf, hn, _⟩ := hS
  have hlen : es.size = (dedupI ns).length := by
    rw [← Array.length_toList, ← List.length_map (f := keyOf)]
    refine same_len hnd nodup_dedupI fun k => ?_
    rw [mem_dedupI, ← hmem k]
    exact decide_eq_true_iff
  have I2 : Inv X pins σ H1 { s1 with heap := h', toks := tk } := I1.kept fun b o e => hk b o e
  have le := dedupI_le (xs := ns)
  refine call_len_set ho hex hd hf (by rw [hlen] <;> omega) ⟨.int (dedupI ns).length, H1, I2.tok _, ⟨_, by rw [hlen]⟩, q1⟩
theorem je_lenSet (hm : X.mg "len" = none) (hm2 : X.mg "set" = none) (ha : JE X E m .sh a fa) (hc : X.calm = true := by rfl) (hg : Gl X "len" := by rfl) (hg2 : Gl X "set" := by rfl)
    (na : starEach [a] X.env = (false, eval a X.env) :: starEach [] X.env := by rfl) : JE X E m .sh (.Call (.Name "len" p) [.Call (.Name "set" p2) [a] [] q] [] pos) (f1 dLenSet fa) := by
  refine ⟨PEimp (pe_lenSetT hc hg hm hg2 hm2 ha.pe na) fun σ H Q h => ?_⟩
  obtain ⟨S, ρ, hs, hp⟩ := h
  refine ⟨S, ρ, hs, (Post.bind hp).post fun d v S1 H1 s1 r k => ?_⟩
  cases d with
  | tup xs =>
    obtain ⟨l, vs, rfl, hl, rv⟩ := r.of_tup
    unfold dLenSet lenSetOf at k
    simp only at k
    split at k
    · rename_i ns ens
      have := intsD_some ens
      subst this
      rw [rv.ints] at hl
      split at k
      · rename_i hz
        exact ⟨l, ns, rfl, .inl (same_t s1.sub hl), hz, k.val s1.sub (.int _)⟩
      · exact k.elim
    · exact k.elim
  | lst xs =>
    obtain ⟨l, vs, rfl, hl, rv⟩ := r.of_lst
    unfold dLenSet lenSetOf at k
    simp only at k
    split at k
    · rename_i ns ens
      have := intsD_some ens
      subst this
      rw [rv.ints] at hl
      split at k
      · rename_i hz
        exact ⟨l, ns, rfl, .inr (.inl (.inl (s1.sub _ _ hl))), hz, k.val s1.sub (.int _)⟩
      · exact k.elim
    · exact k.elim
  | _ => exact k.elim
end
end Da
namespace Da
open PySem PySem.Spec L2
end Da
namespace Da
open PySem PySem.Spec L2
end Da
namespace Da
open PySem PySem.Spec L2
def f3 (g : D → D → D → Res D) (fa fb fc : Env → Res D) : Env → Res D := fun ρ => (fa ρ).bind fun x => (fb ρ).bind fun y => (fc ρ).bind fun z => g x y z
end Da
namespace Da
open PySem PySem.Spec L2
inductive MgAll (mg : Str → Option Value) : List Str → List Addr → Prop
  | nil : MgAll mg [] []
  | cons {y : Str} {Y : Addr} {ys : List Str} {Ys : List Addr} (h : mg y = some (.ref Y)) (t : MgAll mg ys Ys) : MgAll mg (y :: ys) (Y :: Ys)
theorem MgAll.eq {mg : Str → Option Value} : ∀ {ys : List Str} {Ys Zs : List Addr}, MgAll mg ys Ys → MgAll mg ys Zs → Ys = Zs
  | _, _, _, .nil, .nil => rfl
  | _, _, _, .cons h t, .cons h' t' => by
    rw [h] at h'
    have := Option.some.inj h'
    injection this with this
    rw [this, MgAll.eq t t']
end Da
namespace Da
open PySem PySem.Spec PyProof.Rows L2
end Da
namespace Da
open PySem PySem.Spec L2
end Da
namespace Da
open PySem PySem.Spec L2
end Da
namespace Da
open PySem PySem.Spec L2
/-- the same data in another view and heap -/
structure Lk (K : PySem.W.Frag) (mg : Str → Option Value) (S H S1 H1 : Hp) : Prop where
  rep : ∀ v d, Rep K mg S v d → Rep K mg S1 v d
  own : ∀ p o, S p = none → H p = some o → S1 p = none ∧ H1 p = some o
  xd : ∀ p o, S p = some (.xd o) → S1 p = some (.xd o)
section
variable {K : PySem.W.Frag} {mg : Str → Option Value} {S S1 H H1 : Hp}
theorem RepL.lk (l : Lk K mg S H S1 H1) {vs : List V} {ds : List D} (h : RepL K mg S vs ds) : RepL K mg S1 vs ds := ⟨h.len, fun i v d a b => l.rep v d (h.at_ i v d a b)⟩
theorem OwnTr.lk (l : Lk K mg S H S1 H1) : ∀ {n : Nat} {fp : List Addr} {v : V} {d : D}, OwnTr K mg S H n fp v d → OwnTr K mg S1 H1 n fp v d
  | 0, _, _, _, h => ⟨l.rep _ _ h.1, h.2⟩
  | n + 1, _, _, _, h => by
    obtain ⟨p, vs, ds, fps, e1, e2, e3, e4, e5, e6, e7, e8⟩ := h
    obtain ⟨z4, z5⟩ := l.own _ _ e4 e5
    exact ⟨p, vs, ds, fps, e1, e2, e3, z4, z5, e6, e7, fun j w e f x y z => (e8 j w e f x y z).lk l⟩
theorem OwnTh.lk (l : Lk K mg S H S1 H1) {n k : Nat} {q : Addr} {fp : List Addr} {v : V} {d : D} (h : OwnTh K mg S H n k q fp v d) : OwnTh K mg S1 H1 n k q fp v d := by
  obtain ⟨p, vs, ds, fps, e1, e2, e3, e4, e5, e6, e7, h1, h2, h3, e8⟩ := h
  obtain ⟨z4, z5⟩ := l.own _ _ e4 e5
  exact ⟨p, vs, ds, fps, e1, e2, e3, z4, z5, e6, e7, h1, h2, h3, fun j w e f i x y z => (e8 j w e f i x y z).lk l⟩
theorem OwnAt.lk (l : Lk K mg S H S1 H1) {fp : List Addr} {v : V} {d : D} {md : Md} (h : OwnAt K mg S H fp v d md) : OwnAt K mg S1 H1 fp v d md := by
  cases md with
  | owq q0 =>
    obtain ⟨e0, p, vs, ds, e1, e2, e3, e4, e5, e6⟩ := h
    obtain ⟨z4, z5⟩ := l.own _ _ e4 e5
    exact ⟨e0, p, vs, ds, e1, e2, e3, z4, z5, e6.lk l⟩
  | tr n b at_ =>
    cases b with
    | none => exact ⟨h.1, h.2.lk l⟩
    | some kq => exact ⟨h.1, h.2.lk l⟩
  | ex a0 b0 c0 =>
    obtain ⟨c, vfs, ds, e1, e2, e3, e4, e5, e6⟩ := h
    exact ⟨c, vfs, ds, e1, e2, e3, e4, e5.imp id fun ⟨dx, y1, y2⟩ => ⟨dx, y1, l.xd _ _ y2⟩, e6.lk l⟩
  | sh => exact ⟨l.rep _ _ h.1, h.2⟩
  | ow =>
    obtain ⟨p, vs, ds, e1, e2, e3, e4, e5, e6⟩ := h
    obtain ⟨z4, z5⟩ := l.own _ _ e4 e5
    exact ⟨p, vs, ds, e1, e2, e3, z4, z5, e6.lk l⟩
  | ow2 =>
    obtain ⟨p, ps, dss, e1, e2, e3, e4, e5, e6, e7⟩ := h
    obtain ⟨z4, z5⟩ := l.own _ _ e4 e5
    refine ⟨p, ps, dss, e1, e2, e3, z4, z5, e6, fun j q ds x y => ?_⟩
    obtain ⟨z1, vs, z2, z3⟩ := e7 j q ds x y
    obtain ⟨y1, y2⟩ := l.own _ _ z1 z2
    exact ⟨y1, vs, y2, z3.lk l⟩
  | dk =>
    obtain ⟨p, vs, ds, e1, e2, e3, e4, e5, e6⟩ := h
    obtain ⟨z4, z5⟩ := l.own _ _ e4 e5
    exact ⟨p, vs, ds, e1, e2, e3, z4, z5, e6.lk l⟩
  | dt =>
    obtain ⟨p, vs, ds, e1, e2, e3, e4, e5, e6⟩ := h
    obtain ⟨z4, z5⟩ := l.own _ _ e4 e5
    exact ⟨p, vs, ds, e1, e2, e3, z4, z5, e6.lk l⟩
  | ob p =>
    obtain ⟨dx, C, c, fs, ds, e1, e2, e3, e4, e5, e6, e7, e8, e9⟩ := h
    obtain ⟨z4, z7⟩ := l.own _ _ e4 e7
    obtain ⟨z5, z8⟩ := l.own _ _ e5 e8
    exact ⟨dx, C, c, fs, ds, e1, e2, e3, z4, z5, e6, z7, z8, e9.lk l⟩
theorem EnvM.lk (l : Lk K mg S H S1 H1) (s : Same S1 H1) {m : Mds} {σ : L2.St} {ρ : Env} (h : EnvM K mg m S H σ ρ) : EnvM K mg m S1 H1 σ ρ := by
  obtain ⟨_, F, h⟩ := h
  exact ⟨s, F, h.len, fun i d e => by
    obtain ⟨v, e1, e2⟩ := h.at_ i d e
    exact ⟨v, e1, e2.lk l⟩, h.nd, h.apart⟩
end
end Da
namespace Da
open PySem PySem.Spec L2
end Da
namespace Da
open PySem PySem.Spec L2
end Da
namespace Da
open PySem PySem.Spec PyProof.Rows L2
end Da
namespace Da
open PySem PySem.Spec L2
end Da
namespace Da
open PySem PySem.Spec PyProof.Rows L2
end Da
namespace Da
open PySem PySem.Spec L2 PyProof.Rows
section
variable {P : Program} {w : World} {A : Around} {E : Value → Shared → Prop} {s : Shared}
theorem call_set_tupsT {l : Addr} {items : Array Value} (ks : List (Addr × List Int)) {Q : Value → Shared → Prop} (hh : A.handled = none) (hl : s.heap.IsTuple l items) (hit : items.toList = ks.map fun p => Value.ref p.1)
    (hk : ∀ p ∈ ks, IsT P w s.heap p.2 p.1) (hfew : ks.length < 64) (hu : A.units + 3 < cLine)
    (h : ∀ (h' : Heap) (tk : Nat) L es ep t, SetTR P w h' s.heap.objs.size L es ep t → Got ks ks.length L → (∀ b o, s.heap.get? b = some o → h'.get? b = some o) → Q (.ref s.heap.objs.size) { s with heap := h', toks := tk }) :
    wpAny (model P w) A (call (.type "set") [.ref l]) Q E s := by
  have hisz : items.size = ks.length := by
    have q := congrArg List.length hit
    rw [Array.length_toList, List.length_map] at q
    exact q
  obtain ⟨c, tl, hmro⟩ := F.called_set.mro
  have hmade := F.called_set.made
  have hsub := F.called_set.sub
  refine wpAny_call (codeAny_of_tree ?_)
  show wpAny _ _ (callAny (.type "set") _) _ _ _
  refine wpAny_pure ⟨Code.quiet_builtin _ (by decide +kernel), codeAny_builtin F.entry_type_call ?_⟩
  rw [Around.under_plain (weight_type_call_type "set" [.ref l] []) rfl]
  have h1 := F.called_set.notType
  have h2 := F.called_set.canCreate
  have hct := F.typeCall_set_1 (.ref l)
  repeat (any_goals (first | assumption | wp_step))
  refine codeAny_mono (code_set_led1 (.ref l) (E := E) (Q₁ := fun obj s₁ => obj = .ref s.heap.objs.size ∧ s₁ = { s with heap := s.heap.push { cls := .type "set", dict := none, data := .set #[] 0 (.fresh 0 0 (!w.params.followText "set-order")) } }) ⟨rfl, rfl⟩) fun r s₁ hr => ?_
  cases r with
  | error e => exact hr
  | ok fl =>
    cases fl with
    | ret obj =>
      obtain ⟨rfl, rfl⟩ := hr
      have hS : (s.heap.push { cls := .type "set", dict := none, data := .set #[] 0 (.fresh 0 0 (!w.params.followText "set-order")) }).get? s.heap.objs.size = some { cls := .type "set", dict := none, data := .set #[] 0 (.fresh 0 0 (!w.params.followText "set-order")) } := Heap.get?_push_size _ rfl
      have hT : Shared.TypeIs { s with heap := s.heap.push { cls := .type "set", dict := none, data := .set #[] 0 (.fresh 0 0 (!w.params.followText "set-order")) } } (.ref s.heap.objs.size) "set" := ⟨_, hS, rfl⟩
      have hli := F.called_set.init.lookup
      have hbi := F.called_set.init.bind (.ref s.heap.objs.size)
      repeat (any_goals (first | assumption | wp_step))
      refine codeAny_mono (codeAny_call_builtin (R := wants (fun r s₂ => r = .none ∧ ∃ h' tk L es ep t, s₂ = { s with heap := h', toks := tk } ∧ SetTR P w h' s.heap.objs.size L es ep t ∧ Got ks ks.length L ∧
          (∀ b o, s.heap.get? b = some o → h'.get? b = some o)) E) F.called_set.init.plain F.entry_set_init (check_set_init_1 hT ?_)) fun r₂ s₂ hr₂ => ?_
      · obtain ⟨ol, hol, hcl, nl, hdl⟩ := hl
        obtain ⟨ocls, odict, odata, oslots⟩ := ol
        simp only at hcl hdl
        subst hcl; subst hdl
        have hol' : (s.heap.push { cls := .type "set", dict := none, data := .set #[] 0 (.fresh 0 0 (!w.params.followText "set-order")) }).get? l = some { cls := .type "tuple", dict := odict, data := .seq items nl, slots := oslots } := Heap.get?_push_of_some _ hol
        have hsls := F.sub_tuple_set
        have hslf := F.sub_tuple_frozenset
        have hne : (Value.type "tuple" == Value.type "dict") = false := by decide
        have hl1 : (s.heap.push { cls := .type "set", dict := none, data := .set #[] 0 (.fresh 0 0 (!w.params.followText "set-order")) }).IsTuple l items := ⟨_, hol', rfl, nl, rfl⟩
        unfold Builtin.«set.__init__» noKeywords Builtin.Frozenset.updateFrom
        generalize hPI : pyIter = PI
        wp_walk
        subst hPI
        refine wpAny_pyIter_tuple hl1 ?_
        refine wpAny_bind (wpAny_runValue ?_)
        have hlS : l < s.heap.objs.size := Heap.lt_size hol
        have hh3 : A.in1.in1.in1.handled = none := by simp [hh]
        have hz1 : (s.heap.push { cls := .type "set", dict := none, data := .set #[] 0 (.fresh 0 0 (!w.params.followText "set-order")) }).objs.size = s.heap.objs.size + 1 := Heap.size_push ..
        have hneI : l ≠ (s.heap.push { cls := .type "set", dict := none, data := .set #[] 0 (.fresh 0 0 (!w.params.followText "set-order")) }).objs.size := by
          rw [Heap.size_push]; exact Nat.ne_of_lt (Nat.lt_succ_of_lt hlS)
        have hSf : s.heap.objs.size ∉ [(s.heap.push { cls := .type "set", dict := none, data := .set #[] 0 (.fresh 0 0 (!w.params.followText "set-order")) }).objs.size, l] := by
          rw [Heap.size_push]; simp only [List.mem_cons, List.mem_singleton, List.not_mem_nil, or_false, not_or]
          exact ⟨Nat.ne_of_lt (Nat.lt_succ_self _), Nat.ne_of_gt hlS⟩
        have hval : ∀ (i : Nat) (v : Value), items[i]? = some v → ∃ p, ks[i]? = some p ∧ v = .ref p.1 := fun i v hv => by
          have q : items.toList[i]? = some v := by rw [Array.getElem?_toList]; exact hv
          rw [hit, List.getElem?_map] at q
          cases hq : ks[i]? with
          | none => rw [hq] at q; cases q
          | some p =>
            rw [hq] at q
            exact ⟨p, rfl, (Option.some.inj q).symm⟩
        have none_of : ∀ b, s.heap.objs.size ≤ b → s.heap.get? b = none := fun b hb => by
          cases q : s.heap.get? b with
          | none => rfl
          | some o => exact absurd (Nat.lt_of_lt_of_le (Heap.lt_size q) hb) (Nat.lt_irrefl _)
        refine set_update_tups ((Walks.tuple hh3 _ l hneI items).toS) s.heap.objs.size
          hSf ks hisz hfew hval s.heap hk (none_of _ (Nat.le_refl _)) (fun b hb => none_of b (by
            rw [List.mem_singleton.mp hb, Heap.size_push]
            exact Nat.le_succ _)) hu (items.size - 0) 0 _ (by omega) (Nat.zero_le _)
          ⟨⟨_, Heap.get?_push_size _ rfl, rfl, rfl⟩, (hl1.push _)⟩ (fun b o e => Heap.get?_push_of_some _ (Heap.get?_push_of_some _ e)) ?hS0 ?hR
        case hS0 =>
          have hget : ((s.heap.push { cls := .type "set", dict := none, data := .set #[] 0 (.fresh 0 0 (!w.params.followText "set-order")) }).push { cls := .type "tuple_iterator", data := .fields #[.ref l, .int 0 0] }).get? s.heap.objs.size
              = some { cls := .type "set", dict := none, data := .set #[] 0 (.fresh 0 0 (!w.params.followText "set-order")) } := Heap.get?_push_of_some _ hS
          exact ⟨[], #[], 0, _, setTR_fresh hget, Got.zero ks⟩
        case hR =>
          intro s' L es ep t hm hS' g' hkp
          obtain ⟨h', g2, d', tk', os'⟩ := s'
          have eg : g2 = s.gens := hm.gens
          have ed : d' = s.drawn := hm.drawn
          have eo : os' = s.os := hm.os
          subst eg; subst ed; subst eo
          show wpAny _ _ _ _ _ _
          refine wpAny_pure ?_
          show wpAny _ _ (ret Value.none) _ _ _
          rw [hisz] at g'
          exact wpAny_pure ⟨rfl, h', tk', L, es, ep, t, rfl, hS', g', hkp⟩
      · cases r₂ with
        | error e => exact hr₂
        | ok fl₂ =>
          cases fl₂ with
          | ret r =>
            obtain ⟨rfl, h', tk, L, es, ep, t, rfl, hS', g', hk'⟩ := hr₂
            repeat (any_goals (first | assumption | wp_step))
            exact h _ _ _ _ _ _ hS' g' hk'
          | _ => exact hr₂.elim
    | _ => exact hr.elim
end
end Da
namespace Da
open PySem PySem.Spec L2
section
variable {α : Type} [DecidableEq α]
def dedupG : List α → List α
  | [] => []
  | x :: xs => if x ∈ xs then dedupG xs else x :: dedupG xs
theorem mem_dedupG {k : α} : ∀ {xs : List α}, k ∈ dedupG xs ↔ k ∈ xs
  | [] => Iff.rfl
  | x :: xs => by
    have ih := mem_dedupG (k := k) (xs := xs)
    unfold dedupG
    split
    · rename_i h
      rw [ih, List.mem_cons]
      exact ⟨.inr, fun z => z.elim (fun e => by rw [e]; exact h) id⟩
    · rw [List.mem_cons, List.mem_cons, ih]
theorem nodup_dedupG : ∀ {xs : List α}, (dedupG xs).Nodup
  | [] => List.nodup_nil
  | x :: xs => by
    unfold dedupG
    split
    · exact nodup_dedupG
    · rename_i h
      exact List.nodup_cons.mpr ⟨fun z => h (mem_dedupG.mp z), nodup_dedupG⟩
theorem dedupG_self : ∀ {xs : List α}, xs.Nodup → dedupG xs = xs
  | [], _ => rfl
  | x :: xs, h => by
    rw [List.nodup_cons] at h
    unfold dedupG
    rw [if_neg h.1, dedupG_self h.2]
end
def rowsD : List D → Option (List (List Int))
  | [] => some []
  | x :: xs => match x with
    | .tup ys => match intsD ys with
      | some ns => match rowsD xs with
        | some r => some (ns :: r)
        | none => none
      | none => none
    | _ => none
theorem rowsD_map : ∀ (nss : List (List Int)), rowsD (nss.map fun ns => D.tup (ns.map D.int)) = some nss
  | [] => rfl
  | ns :: nss => by
    rw [List.map_cons]
    unfold rowsD
    simp only [intsD_map, rowsD_map nss]
theorem rowsD_some : ∀ {xs : List D} {nss : List (List Int)}, rowsD xs = some nss → xs = nss.map fun ns => D.tup (ns.map D.int)
  | [], nss, e => by cases e; rfl
  | x :: xs, nss, e => by
    unfold rowsD at e
    cases x with
    | tup ys =>
      simp only at e
      cases e1 : intsD ys with
      | none => rw [e1] at e; cases e
      | some ns =>
        rw [e1] at e
        simp only at e
        cases e2 : rowsD xs with
        | none => rw [e2] at e; cases e
        | some r =>
          rw [e2] at e
          cases e
          rw [rowsD_some e2, intsD_some e1]
          rfl
    | _ => simp only at e; cases e
def lenSetTOf (xs : List D) : Res D := match rowsD xs with
    | some nss => if nss.length < 64 then .ok (.int (dedupG nss).length) else .er
    | none => .er
def dLenSetT : D → Res D
  | .tup xs => lenSetTOf xs
  | _ => .er
theorem rep_rows {K : PySem.W.Frag} {mg : Str → Option Value} {S : Hp} : ∀ {vs : List V} {nss : List (List Int)}, RepL K mg S vs (nss.map fun ns => D.tup (ns.map D.int)) → ∃ ks : List (Addr × List Int), vs = ks.map (fun p => V.ref p.1) ∧ ks.map (fun p => p.2) = nss ∧ ∀ p ∈ ks, SqT K S p.1 (p.2.map V.int)
  | [], [], _ => ⟨[], rfl, rfl, fun p hp => nomatch hp⟩
  | [], _ :: _, h => by have := h.len; simp at this
  | _ :: _, [], h => by have := h.len; simp at this
  | v :: vs, ns :: nss, h => by
    obtain ⟨a, us, rfl, ha, ru⟩ := h.head.of_tup
    obtain ⟨ks, rfl, rfl, hk⟩ := rep_rows (nss := nss) h.tail
    rw [ru.ints] at ha
    refine ⟨(a, ns) :: ks, rfl, rfl, fun p hp => ?_⟩
    rcases List.mem_cons.mp hp with rfl | hp
    · exact ha
    · exact hk p hp
section
variable {X : Cx} {E : WX} {m : Mds} {a : Expr} {fa : Env → Res D} {pos p p2 q : Pos}
def tLenSetTT (K : PySem.W.Frag) (ta : TE) : TE := fun σ H Q => ta σ H fun x H1 => ∃ (l : Addr) (ks : List (Addr × List Int)), x = V.ref l ∧ SqT K H1 l (ks.map fun p => V.ref p.1) ∧ (∀ p ∈ ks, SqT K H1 p.1 (p.2.map V.int)) ∧ ks.length < 64 ∧ Q (.int (dedupG (ks.map fun p => p.2)).length) H1
theorem pe_lenSetTT {ta : TE} (hc : X.calm = true) (hu : X.A.units + 64 < cLine) (hg : Gl X "len") (hm : X.mg "len" = none) (hg2 : Gl X "set") (hm2 : X.mg "set" = none) (ha : PE X a ta)
    (na : starEach [a] X.env = (false, eval a X.env) :: starEach [] X.env := by rfl) : PE X (.Call (.Name "len" p) [.Call (.Name "set" p2) [a] [] q] [] pos) (tLenSetTT X.K ta) := by
  refine ⟨fun pins s σ H Q I h => ?_⟩
  refine PyProof.Rows.Call_ (ld_blt I hg hm PySem.boot_len ?_)
  refine PyProof.Rows.callWith_builtin1 (PyProof.Rows.args_cons ?_ rfl) rfl rfl
  refine PyProof.Rows.Call_ (ld_blt I hg2 hm2 PyProof.Rows.boot_set ?_)
  refine PyProof.Rows.callWith_type1 (PyProof.Rows.args_cons (thn (ha.run pins s σ H _ I h) fun v s1 ⟨x, H1, I1, r1, q1⟩ => PyProof.Rows.args_nil ?_) na) na rfl
  obtain ⟨l, ks, rfl, hq, hk, h1, q1⟩ := q1
  cases r1
  obtain ⟨its, r, pl, hz⟩ := I1.tuple hq
  refine call_set_tupsT (P := X.prog) (w := X.w) ks (I1.ok.hd hc) pl (by simpa using refs_of_vals r) (fun p hp => I1.isT (hk p hp)) h1 (by omega) fun h' tk L es ep t R g kp => ?_
  refine PyProof.Rows.args_nil ?_
  obtain ⟨o, ho, hex, hd⟩ := R.ob
  have hlen : es.size = (dedupG (ks.map fun p => p.2)).length := by
    rw [SetTR.size (s := { s1 with heap := h' }) R, ← List.length_map (f := fun p : Addr × List Int => p.2)]
    refine Nat.le_antisymm (R.nd.length_le_of_subset fun k hk' => ?_) (nodup_dedupG.length_le_of_subset fun k hk' => ?_)
    · obtain ⟨z, hz', rfl⟩ := List.mem_map.mp hk'
      exact mem_dedupG.mpr (List.mem_map.mpr ⟨z, List.mem_of_mem_take (g.sub z hz'), rfl⟩)
    · obtain ⟨z, hz', rfl⟩ := List.mem_map.mp (mem_dedupG.mp hk')
      exact g.all z (by rw [List.take_length]; exact hz')
  have hfew := R.few
  have hsz := SetTR.size (s := { s1 with heap := h' }) R
  have I2 : Inv X pins σ H1 { s1 with heap := h', toks := tk } := I1.kept fun b o e => kp b o e
  refine call_len_set ho hex hd (SetTR.fits (s := { s1 with heap := h' }) R) (by omega) ⟨.int (dedupG (ks.map fun p => p.2)).length, H1, I2.tok _, ⟨_, by rw [hlen]⟩, q1⟩
theorem je_lenSetT (hm : X.mg "len" = none) (hm2 : X.mg "set" = none) (ha : JE X E m .sh a fa) (hu : X.A.units + 64 < cLine := by first | decide | exact (by decide +kernel) | omega) (hc : X.calm = true := by rfl) (hg : Gl X "len" := by rfl) (hg2 : Gl X "set" := by rfl)
    (na : starEach [a] X.env = (false, eval a X.env) :: starEach [] X.env := by rfl) : JE X E m .sh (.Call (.Name "len" p) [.Call (.Name "set" p2) [a] [] q] [] pos) (f1 dLenSetT fa) := by
  refine ⟨PEimp (pe_lenSetTT hc hu hg hm hg2 hm2 ha.pe na) fun σ H Q h => ?_⟩
  obtain ⟨S, ρ, hs, hp⟩ := h
  refine ⟨S, ρ, hs, (Post.bind hp).post fun d v S1 H1 s1 r k => ?_⟩
  cases d with
  | tup xs =>
    obtain ⟨l, vs, rfl, hl, rv⟩ := r.of_tup
    unfold dLenSetT lenSetTOf at k
    simp only at k
    split at k
    · rename_i nss ens
      have := rowsD_some ens
      subst this
      obtain ⟨ks, rfl, rfl, hk⟩ := rep_rows rv
      split at k
      · rename_i hz
        rw [List.length_map] at hz
        exact ⟨l, ks, rfl, same_t s1.sub hl, fun p hp => same_t s1.sub (hk p hp), hz, k.val s1.sub (.int _)⟩
      · exact k.elim
    · exact k.elim
  | _ => exact k.elim
end
end Da
namespace Da
open PySem PySem.Spec L2
section
variable {α β γ : Type} {e : α → D} {f : β → D} {ρ : Env} {fa fb : Env → Res D}
theorem op_mul {i j : Int} : Rf (dMul (.int i) (.int j)) (mulR i j) D.int := by
  unfold mulR
  split
  · rename_i h; exact dMul_int h
  · trivial
theorem op_div {i j : Int} : Rf (dDiv (.int i) (.int j)) (divR i j) D.int := by
  unfold divR
  split
  · rename_i h
    show (if divOk i j = true then Res.ok (D.int (i.fdiv j)) else .er) = _
    rw [if_pos (show divOk i j = true from stuck_iff.mpr ⟨by omega, h.2⟩), Int.fdiv_eq_ediv_of_nonneg i (by omega)]
  · split
    · rename_i h
      show (if divOk i j = true then Res.ok (D.int (i.fdiv j)) else .er) = _
      have hf : i.fdiv j = -i / -j := by
        have h1 : i.fdiv j = (-i).fdiv (-j) := (Int.neg_fdiv_neg i j).symm
        rw [h1, Int.fdiv_eq_ediv_of_nonneg _ (by omega)]
      rw [if_pos (show divOk i j = true from stuck_iff.mpr ⟨by omega, h.2⟩), hf]
    · trivial
theorem op_mod {i j : Int} : Rf (dMod (.int i) (.int j)) (modR i j) D.int := by
  unfold modR
  split
  · rename_i h; exact dMod_pos h
  · trivial
theorem op_divp {i j : Int} (h : 0 < j) (h9 : j < 18446744073709551616) : dDiv (.int i) (.int j) = .ok (.int (i / j)) := dDiv_64 h h9
theorem op_modp {i j : Int} (h : 0 < j) : dMod (.int i) (.int j) = .ok (.int (i % j)) := dMod_pos h
theorem op_pow {i j : Int} : Rf (dPow (.int i) (.int j)) (powR i j) D.int := by
  unfold powR
  split
  · rename_i h; exact if_pos h
  · trivial
theorem atI_mapN {xs : List α} {i : Int} : atI (xs.map e) i = (atI xs i).map e := by
  unfold atI ixN
  rw [List.length_map]
  split <;> (try split) <;> simp
theorem op_ixL {xs : List α} {i : Int} : Rf (dIx (eL e xs) (.int i)) (ixR xs i) e := by
  unfold ixR
  cases h : atI xs i with
  | some x => exact dIx_lst (by rw [atI_mapN, h]; rfl)
  | none => trivial
theorem op_ixT {xs : List α} {i : Int} : Rf (dIx (eT e xs) (.int i)) (ixR xs i) e := by
  unfold ixR
  cases h : atI xs i with
  | some x => exact dIx_tup (by rw [atI_mapN, h]; rfl)
  | none => trivial
theorem op_ixF {xs : List α} {i : Int} : Rf (dIx (eF e xs) (.int i)) (ixR xs i) e := by
  unfold ixR
  cases h : atI xs i with
  | some x => exact dIx_frl (by rw [atI_mapN, h]; rfl)
  | none => trivial
theorem op_catT {xs ys : List α} : Rf (dAdd (eT e xs) (eT e ys)) (catR xs ys) (eT e) := by
  unfold catR
  split
  · rename_i h
    show (if szOk ((xs.map e).length + (ys.map e).length) = true then Res.ok (D.tup (xs.map e ++ ys.map e)) else .er) = Res.ok (D.tup ((xs ++ ys).map e))
    rw [List.length_map, List.length_map, h, List.map_append]; rfl
  · trivial
theorem op_catLL {xs ys : List α} : Rf (dAddL (eL e xs) (eL e ys)) (catR xs ys) (eL e) := by
  unfold catR
  split
  · rename_i h
    show (if szOk ((xs.map e).length + (ys.map e).length) = true then Res.ok (D.lst (xs.map e ++ ys.map e)) else .er) = Res.ok (D.lst ((xs ++ ys).map e))
    rw [List.length_map, List.length_map, h, List.map_append]; rfl
  · trivial
theorem op_rep {xs : List α} {k : Int} : Rf (dRep (eL e xs) (.int k)) (repR xs k) (eL e) := by
  unfold repR
  split
  · rename_i h
    show (if repOk (xs.map e).length k = true then Res.ok (D.lst (List.replicate k.toNat (xs.map e)).flatten) else .er) = Res.ok (D.lst (((List.replicate k.toNat xs).flatten).map e))
    rw [List.length_map, h, List.map_flatten, List.map_replicate]; rfl
  · trivial
theorem op_lenL {xs : List α} : dLen (eL e xs) = .ok (.int xs.length) := by show Res.ok (D.int (xs.map e).length) = _; rw [List.length_map]
theorem op_lenT {xs : List α} : dLen (eT e xs) = .ok (.int xs.length) := by show Res.ok (D.int (xs.map e).length) = _; rw [List.length_map]
theorem op_lenF {xs : List α} : dLen (eF e xs) = .ok (.int xs.length) := by show Res.ok (D.int (xs.map e).length) = _; rw [List.length_map]
theorem op_trL {xs : List α} : trD (eL e xs) = .ok (!xs.isEmpty) := by show Res.ok (!(xs.map e).isEmpty) = _; rw [List.isEmpty_map]
theorem op_trT {xs : List α} : trD (eT e xs) = .ok (!xs.isEmpty) := by show Res.ok (!(xs.map e).isEmpty) = _; rw [List.isEmpty_map]
theorem op_allL {xs : List Bool} : dAll (eL D.bl xs) = .ok (.bl (xs.all id)) := by show (match boolsD (xs.map D.bl) with | some ns => Res.ok (D.bl (ns.all id)) | none => .er) = _; rw [boolsD_map]
theorem op_sortL {xs : List Int} : dSorted (eL D.int xs) = .ok (eL D.int (xs.mergeSort leI)) := dSorted_lst
theorem evCut {f : Env → Res D} {fl fh : Env → Res (Option Int)} {g : D → Option Int → Option Int → Res D} {x z : D} {l h : Option Int} (hf : f ρ = .ok x) (hl : fl ρ = .ok l) (hh : fh ρ = .ok h) (hg : g x l h = .ok z) : fCut g f fl fh ρ = .ok z := by
  unfold fCut
  rw [hf]; show (fl ρ).bind _ = _
  rw [hl]; show (fh ρ).bind _ = _
  rw [hh]; exact hg
theorem rf_chk {n : Nat} {m : List D → Res D} {ds : List D} {r : Res α} (h : Rf (m ds) r e) (hl : ds.length = n) : Rf (chk n m ds) r e := by
  unfold chk; rw [if_pos hl]; exact h
theorem ev_chk {n : Nat} {m : List D → Res D} {ds : List D} {d : D} (h : m ds = .ok d) (hl : ds.length = n) : chk n m ds = .ok d := by
  unfold chk; rw [if_pos hl]; exact h
theorem it_L {xs : List α} (h : fa ρ = .ok (eL e xs)) : fL fa ρ = .ok (xs.map e) := evL h rfl
theorem it_T {xs : List α} (h : fa ρ = .ok (eT e xs)) : fL fa ρ = .ok (xs.map e) := evL h rfl
theorem it_F {xs : List α} (h : fa ρ = .ok (eF e xs)) : fL fa ρ = .ok (xs.map e) := evL h rfl
theorem rng_mapI {lo : Int} {n : Nat} : rng lo n = (rngI lo n).map D.int := by unfold rng rngI; rw [List.map_map]; rfl
theorem it_R1 {fs : Env → Res (List D)} {j : Int} (h : fs ρ = .ok [.int j]) : Rf (fR1 fs ρ) (rngR j) (fun xs => xs.map D.int) := by
  unfold fR1
  rw [h]
  show Rf (if rngOk 0 j = true then Res.ok (rng 0 j.toNat) else .er) _ _
  unfold rngR
  split
  · rw [rng_mapI]; rfl
  · trivial
theorem it_R2 {fs : Env → Res (List D)} {i j : Int} (h : fs ρ = .ok [.int i, .int j]) : Rf (fR2 fs ρ) (rng2R i j) (fun xs => xs.map D.int) := by
  unfold fR2
  rw [h]
  show Rf (if rngOk i j = true then Res.ok (rng i (j - i).toNat) else .er) _ _
  unfold rng2R
  split
  · rw [rng_mapI]; rfl
  · trivial
theorem enum_map : ∀ {xs : List α} {i : Nat}, enumD i (xs.map e) = (enumI i xs).map (eP2 D.int e)
  | [], _ => rfl
  | x :: xs, i => by
    show D.tup [.int (i : Int), e x] :: enumD (i + 1) (xs.map e) = _
    rw [enum_map]
    rfl
theorem it_enT {xs : List α} (h : fa ρ = .ok (eT e xs)) : fEnum (fA fa fA0) ρ = .ok ((enumI 0 xs).map (eP2 D.int e)) := by
  unfold fEnum
  rw [evA h rfl, ← enum_map]
  rfl
end
section
variable {α β γ α' : Type} {ex : α → D} {e : β → D} {vs vs1 : List Nat} {it it1 : Env → Res (List D)} {g g1 : D → Env → Res Env} {c c1 : Env → Res Bool} {f : Env → Res D} {ρ : Env}
theorem lcGo_rf {rc : α → Res Bool} {rf : α → Res β} {E1 : α → Env} (hg : ∀ x, g (ex x) ρ = .ok (E1 x)) (hc : ∀ x, Rf (c (E1 x)) (rc x) (fun b => b)) (hf : ∀ x, Rf (f (E1 x)) (rf x) e) : ∀ xs : List α, match lcR.go rc rf xs with
    | .ok ys => lcGo g c f ρ (xs.map ex) = .ok (ys.map e)
    | .ex _ _ => False
    | .er => True
  | [] => rfl
  | x :: xs => by
    have ih := lcGo_rf hg hc hf xs
    unfold lcR.go
    rw [List.map_cons]
    unfold lcGo
    rw [hg]
    have h1 := hc x
    have h2 := hf x
    cases q : rc x with
    | ok b =>
      rw [q] at h1
      have h1 : c (E1 x) = .ok b := h1
      dsimp only
      rw [h1]
      cases b with
      | true =>
        cases q2 : rf x with
        | ok y =>
          rw [q2] at h2
          have h2 : f (E1 x) = .ok (e y) := h2
          dsimp only
          rw [h2]
          cases q3 : lcR.go rc rf xs with
          | ok ys => rw [q3] at ih; dsimp only at ih ⊢; rw [ih]; rfl
          | ex _ _ => rw [q3] at ih; exact ih.elim
          | er => exact trivial
        | ex _ _ => exact trivial
        | er => exact trivial
      | false => exact ih
    | ex _ _ => exact trivial
    | er => exact trivial
theorem rf_lcp {rc : α → Res Bool} {rf : α → Res β} {xs : List α} (hi : it ρ = .ok (xs.map ex)) (E1 : α → Env) (hg : ∀ x, g (ex x) (wipeD ρ vs) = .ok (E1 x)) (hc : ∀ x, Rf (c (E1 x)) (rc x) (fun b => b)) (hf : ∀ x, Rf (f (E1 x)) (rf x) e) : Rf (fLc vs it g c f ρ) (lcR xs rc rf) (eL e) := by
  unfold fLc lcR
  rw [hi]
  show Rf (if szOk (xs.map ex).length = true then asLst (lcGo g c f (wipeD ρ vs) (xs.map ex)) else .er) _ _
  rw [List.length_map]
  split
  · have := lcGo_rf hg hc hf xs
    cases q : lcR.go rc rf xs with
    | ok ys => rw [q] at this; dsimp only at this; rw [this]; exact rfl
    | ex _ _ => rw [q] at this; exact this.elim
    | er => exact trivial
  · exact trivial
theorem rf_lc {rc : α → Res Bool} {rf : α → Res β} {rxs : Res (List α)} (hi : Rf (it ρ) rxs (fun xs => xs.map ex)) (E1 : α → Env) (hg : ∀ x, g (ex x) (wipeD ρ vs) = .ok (E1 x)) (hc : ∀ x, Rf (c (E1 x)) (rc x) (fun b => b)) (hf : ∀ x, Rf (f (E1 x)) (rf x) e) : Rf (fLc vs it g c f ρ) (rxs.bind fun xs => lcR xs rc rf) (eL e) := by
  cases rxs with
  | ok xs => exact rf_lcp hi E1 hg hc hf
  | ex cn fs =>
    show fLc vs it g c f ρ = _
    unfold fLc
    rw [show it ρ = _ from hi]
    rfl
  | er => exact trivial
theorem lc2Go_rf {rc : α → Res Bool} {i1 : α → Res (List β)} {c1r : α → β → Res Bool} {rf : α → β → Res γ} {ey : β → D} {ez : γ → D} {E1 : α → Env} {E2 : α → β → Env} (hg : ∀ x, g (ex x) ρ = .ok (E1 x)) (hc : ∀ x, Rf (c (E1 x)) (rc x) (fun b => b))
    (hi1 : ∀ x, Rf (it1 (E1 x)) (i1 x) (fun ys => ys.map ey)) (hg1 : ∀ x y, g1 (ey y) (wipeD (E1 x) vs1) = .ok (E2 x y)) (hc1 : ∀ x y, Rf (c1 (E2 x y)) (c1r x y) (fun b => b)) (hf : ∀ x y, Rf (f (E2 x y)) (rf x y) ez) : ∀ xs : List α, match lc2R.go rc i1 c1r rf xs with
    | .ok ys => lc2Go g c vs1 it1 g1 c1 f ρ (xs.map ex) = .ok (ys.map ez)
    | .ex _ _ => False
    | .er => True
  | [] => rfl
  | x :: xs => by
    have ih := lc2Go_rf hg hc hi1 hg1 hc1 hf xs
    unfold lc2R.go
    rw [List.map_cons]
    unfold lc2Go
    rw [hg]
    have h1 := hc x
    have h2 := hi1 x
    cases q : rc x with
    | ok b =>
      rw [q] at h1
      have h1 : c (E1 x) = .ok b := h1
      dsimp only
      rw [h1]
      cases b with
      | true =>
        cases q2 : i1 x with
        | ok ys =>
          rw [q2] at h2
          have h2 : it1 (E1 x) = .ok (ys.map ey) := h2
          dsimp only
          rw [h2]
          have h3 := lcGo_rf (hg1 x) (hc1 x) (hf x) ys
          cases q3 : lcR.go (c1r x) (rf x) ys with
          | ok zs =>
            rw [q3] at h3
            dsimp only at h3
            simp only [nx_ok, Res.bind_ok, if_true, q3, h3]
            cases q4 : lc2R.go rc i1 c1r rf xs with
            | ok ws => rw [q4] at ih; dsimp only at ih ⊢; rw [ih]; simp only [Res.bind_ok, List.map_append]
            | ex _ _ => rw [q4] at ih; exact ih.elim
            | er => exact trivial
          | ex _ _ => rw [q3] at h3; exact h3.elim
          | er => simp only [nx_ok, Res.bind_ok, if_true, q3, Res.bind_er]
        | ex _ _ => exact trivial
        | er => exact trivial
      | false => exact ih
    | ex _ _ => exact trivial
    | er => exact trivial
theorem rf_lc2p {rc : α → Res Bool} {i1 : α → Res (List β)} {c1r : α → β → Res Bool} {rf : α → β → Res γ} {ey : β → D} {ez : γ → D} {xs : List α} (hi : it ρ = .ok (xs.map ex)) (E1 : α → Env) (E2 : α → β → Env) (hg : ∀ x, g (ex x) (wipeD ρ vs) = .ok (E1 x)) (hc : ∀ x, Rf (c (E1 x)) (rc x) (fun b => b))
    (hi1 : ∀ x, Rf (it1 (E1 x)) (i1 x) (fun ys => ys.map ey)) (hg1 : ∀ x y, g1 (ey y) (wipeD (E1 x) vs1) = .ok (E2 x y)) (hc1 : ∀ x y, Rf (c1 (E2 x y)) (c1r x y) (fun b => b)) (hf : ∀ x y, Rf (f (E2 x y)) (rf x y) ez) : Rf (fLc2 vs it g c vs1 it1 g1 c1 f ρ) (lc2R xs rc i1 c1r rf) (eL ez) := by
  unfold fLc2 lc2R
  rw [hi]
  show Rf (match lc2Go g c vs1 it1 g1 c1 f (wipeD ρ vs) (xs.map ex) with
    | .ok ys => if szOk ys.length = true then .ok (D.lst ys) else .er
    | _ => .er) _ _
  have := lc2Go_rf hg hc hi1 hg1 hc1 hf xs
  cases q : lc2R.go rc i1 c1r rf xs with
  | ok ys =>
    rw [q] at this
    dsimp only at this
    rw [this]
    dsimp only
    show Rf _ (if szOk ys.length = true then Res.ok ys else .er) _
    rw [List.length_map]
    split
    · exact rfl
    · exact trivial
  | ex _ _ => rw [q] at this; exact this.elim
  | er => exact trivial
theorem rf_lc2 {rc : α → Res Bool} {i1 : α → Res (List β)} {c1r : α → β → Res Bool} {rf : α → β → Res γ} {ey : β → D} {ez : γ → D} {rxs : Res (List α)} (hi : Rf (it ρ) rxs (fun xs => xs.map ex)) (E1 : α → Env) (E2 : α → β → Env) (hg : ∀ x, g (ex x) (wipeD ρ vs) = .ok (E1 x)) (hc : ∀ x, Rf (c (E1 x)) (rc x) (fun b => b))
    (hi1 : ∀ x, Rf (it1 (E1 x)) (i1 x) (fun ys => ys.map ey)) (hg1 : ∀ x y, g1 (ey y) (wipeD (E1 x) vs1) = .ok (E2 x y)) (hc1 : ∀ x y, Rf (c1 (E2 x y)) (c1r x y) (fun b => b)) (hf : ∀ x y, Rf (f (E2 x y)) (rf x y) ez) : Rf (fLc2 vs it g c vs1 it1 g1 c1 f ρ) (rxs.bind fun xs => lc2R xs rc i1 c1r rf) (eL ez) := by
  cases rxs with
  | ok xs => exact rf_lc2p hi E1 E2 hg hc hi1 hg1 hc1 hf
  | ex cn fs =>
    show fLc2 vs it g c vs1 it1 g1 c1 f ρ = _
    unfold fLc2
    rw [show it ρ = _ from hi]
    rfl
  | er => exact trivial
theorem rf_lcN2 {e1 : α → D} {e2 : β → D} {r1 : Res α} {r2 : Res β} {d1 d2 : D} {ρ1 ρ2 : Env} (hi : it ρ = .ok [d1, d2]) (hg1 : g d1 (wipeD ρ vs) = .ok ρ1) (hg2 : g d2 (wipeD ρ vs) = .ok ρ2) (hf1 : Rf (f ρ1) r1 e1) (hf2 : Rf (f ρ2) r2 e2) : Rf (fLc vs it g fYes f ρ) ((nx r1).bind fun x => (nx r2).bind fun y => .ok (x, y)) (eH2 e1 e2) := by
  unfold fLc
  rw [hi]
  show Rf (if szOk 2 = true then asLst (lcGo g fYes f (wipeD ρ vs) [d1, d2]) else .er) _ _
  rw [if_pos (szOk_yes (by decide))]
  cases r1 with
  | ok y =>
    cases r2 with
    | ok z => simp only [lcGo, hg1, hg2, fYes, show f ρ1 = _ from hf1, show f ρ2 = _ from hf2, if_true]; exact rfl
    | _ => exact trivial
  | _ => exact trivial
end
section
variable {α β γ δ σ : Type} {ex : α → D} {e : β → D} {vs : List Nat} {it : Env → Res (List D)} {g : D → Env → Res Env} {F G : FS} {ρ : Env} {K : Res Fl → Res δ} {o : γ → δ}
def ctlO {σ β : Type} (E : σ → Env) (e : β → D) : Ctl σ β → Fl
  | .go s => .nx (E s)
  | .out s => .bk (E s)
  | .ret v => .rt (e v)
def LoopC {σ β : Type} (E : σ → Env) (e : β → D) (m : Res Fl) (r : Res (Ctl σ β)) : Prop := match r with
  | .ok (.go s') => m = .ok (.nx (E s'))
  | .ok (.out _) => False
  | .ok (.ret v) => m = .ok (.rt (e v))
  | .ex c fs => ∃ ρ, m = .ok (.xc c fs ρ)
  | .er => True
def LoopR {σ : Type} (E : σ → Env) (m : Res Fl) (r : Res σ) : Prop := match r with
  | .ok s' => m = .ok (.nx (E s'))
  | .ex c fs => ∃ ρ, m = .ok (.xc c fs ρ)
  | .er => True
theorem finL_nx {vs : List Nat} {m : Res Fl} {ρ : Env} (h : finL vs m = .ok (.nx ρ)) : fgt vs m = .ok (.nx ρ) ∨ fgt vs m = .ok (.ct ρ) := by
  unfold finL at h
  split at h <;> cases h
  · exact .inl rfl
  · exact .inr rfl
theorem finL_bk {vs : List Nat} {m : Res Fl} {ρ : Env} (h : finL vs m = .ok (.bk ρ)) : fgt vs m = .ok (.bk ρ) := by
  unfold finL at h
  split at h <;> cases h
  rfl
theorem finL_rt {vs : List Nat} {m : Res Fl} {d : D} (h : finL vs m = .ok (.rt d)) : fgt vs m = .ok (.rt d) := by
  unfold finL at h
  split at h <;> cases h
  rfl
theorem finL_ex {vs : List Nat} {m : Res Fl} {c : Str} {fs : List (Str × D)} (h : finL vs m = .ex c fs) : ∃ ρ, fgt vs m = .ok (.xc c fs ρ) := by
  unfold finL at h
  split at h <;> cases h
  exact ⟨_, rfl⟩
theorem finL_end {vs : List Nat} {N : Res γ} {o : γ → Fl} (h : Rf (finL vs (fSeq F fNext ρ)) N o) : Rf (finL vs (F ρ)) N o := t_end h
theorem forGo_C {E : σ → Env} {E1 : σ → α → Env} {f : σ → α → Res (Ctl σ β)} (hg : ∀ s x, g (ex x) (E s) = .ok (E1 s x)) (hb : ∀ s x, Rf (finL vs (fSeq F fNext (E1 s x))) (f s x) (ctlO E e)) : ∀ (xs : List α) (s : σ), LoopC E e (forGo g (fFgt vs F) (xs.map ex) (E s)) (forC f xs s)
  | [], s => rfl
  | x :: xs, s => by
    unfold forC
    rw [List.map_cons]
    unfold forGo
    rw [hg]
    have h := finL_end (hb s x)
    cases q : f s x with
    | ok c =>
      rw [q] at h
      cases c with
      | go s' =>
        have ih := forGo_C hg hb xs s'
        rcases finL_nx h with h | h
        · dsimp only [Res.bind_ok, fFgt]
          rw [h]
          exact ih
        · dsimp only [Res.bind_ok, fFgt]
          rw [h]
          exact ih
      | out s' =>
        dsimp only [Res.bind_ok, fFgt]
        rw [finL_bk h]; exact rfl
      | ret v =>
        dsimp only [Res.bind_ok, fFgt]
        rw [finL_rt h]; exact rfl
    | ex c fs =>
      rw [q] at h
      obtain ⟨ρ1, h⟩ := finL_ex h
      dsimp only [Res.bind_ex, fFgt]
      rw [h]
      exact ⟨ρ1, rfl⟩
    | er => exact trivial
theorem forGo_R {E : σ → Env} {E1 : σ → α → Env} {f : σ → α → Res σ} (hg : ∀ s x, g (ex x) (E s) = .ok (E1 s x)) (hb : ∀ s x, Rf (finL vs (fSeq F fNext (E1 s x))) (f s x) (fun s => .nx (E s))) : ∀ (xs : List α) (s : σ), LoopR E (forGo g (fFgt vs F) (xs.map ex) (E s)) (forR f xs s)
  | [], s => rfl
  | x :: xs, s => by
    unfold forR
    rw [List.map_cons]
    unfold forGo
    rw [hg]
    have h := finL_end (hb s x)
    cases q : f s x with
    | ok s' =>
      rw [q] at h
      have ih := forGo_R hg hb xs s'
      rcases finL_nx h with h | h
      · dsimp only [Res.bind_ok, fFgt]
        rw [h]
        exact ih
      · dsimp only [Res.bind_ok, fFgt]
        rw [h]
        exact ih
    | ex c fs =>
      rw [q] at h
      obtain ⟨ρ1, h⟩ := finL_ex h
      dsimp only [Res.bind_ex, fFgt]
      rw [h]
      exact ⟨ρ1, rfl⟩
    | er => exact trivial
/-- a loop that neither breaks nor returns -/
theorem s_forp {f : σ → α → Res σ} {xs : List α} {s0 : σ} (hi : it ρ = .ok (xs.map ex)) (E : σ → Env) (E1 : σ → α → Env) (h0 : ρ = E s0) (hg : ∀ s x, g (ex x) (E s) = .ok (E1 s x)) (hb : ∀ s x, Rf (finL vs (fSeq F fNext (E1 s x))) (f s x) (fun s => .nx (E s))) : Rf (finS [] (fFor it g (fFgt vs F) ρ)) (forR f xs s0) (fun s => .nx (E s)) := by
  have h := forGo_R hg hb xs s0
  rw [fFor_ap hi]
  cases q : forR f xs s0 with
  | ok s' => rw [q] at h; have h : _ = _ := h; rw [h0, h]; exact rfl
  | ex c fs => rw [q] at h; obtain ⟨ρ1, h⟩ := h; rw [h0, h]; exact rfl
  | er => exact trivial
theorem s_for {f : σ → α → Res σ} {rxs : Res (List α)} {s0 : σ} (hi : Rf (it ρ) rxs (fun xs => xs.map ex)) (E : σ → Env) (E1 : σ → α → Env) (h0 : ρ = E s0) (hg : ∀ s x, g (ex x) (E s) = .ok (E1 s x)) (hb : ∀ s x, Rf (finL vs (fSeq F fNext (E1 s x))) (f s x) (fun s => .nx (E s))) : Rf (finS [] (fFor it g (fFgt vs F) ρ)) (rxs.bind fun xs => forR f xs s0) (fun s => .nx (E s)) := by
  cases rxs with
  | ok xs => exact s_forp hi E E1 h0 hg hb
  | ex c fs =>
    show finS [] (lift (it ρ) ρ _) = _
    rw [show it ρ = _ from hi]
    rfl
  | er => exact trivial
/-- a loop with breaks -/
theorem s_forBp {f : σ → α → Res (Ctl σ Unit)} {xs : List α} {s0 : σ} (hi : it ρ = .ok (xs.map ex)) (E : σ → Env) (E1 : σ → α → Env) (h0 : ρ = E s0) (hg : ∀ s x, g (ex x) (E s) = .ok (E1 s x)) (hb : ∀ s x, Rf (finL vs (fSeq F fNext (E1 s x))) (f s x) (ctlO E eN)) : Rf (finS [] (fFor it g (fFgt vs F) ρ)) ((forC f xs s0).bind ctlS) (fun s => .nx (E s)) := by
  have h := forGo_C hg hb xs s0
  rw [fFor_ap hi]
  cases q : forC f xs s0 with
  | ok c =>
    rw [q] at h
    cases c with
    | go s' => have h : _ = _ := h; rw [h0, h]; exact rfl
    | out s' => exact h.elim
    | ret v => exact trivial
  | ex c fs => rw [q] at h; obtain ⟨ρ1, h⟩ := h; rw [h0, h]; exact rfl
  | er => exact trivial
theorem s_forB {f : σ → α → Res (Ctl σ Unit)} {rxs : Res (List α)} {s0 : σ} (hi : Rf (it ρ) rxs (fun xs => xs.map ex)) (E : σ → Env) (E1 : σ → α → Env) (h0 : ρ = E s0) (hg : ∀ s x, g (ex x) (E s) = .ok (E1 s x)) (hb : ∀ s x, Rf (finL vs (fSeq F fNext (E1 s x))) (f s x) (ctlO E eN)) : Rf (finS [] (fFor it g (fFgt vs F) ρ)) (rxs.bind fun xs => (forC f xs s0).bind ctlS) (fun s => .nx (E s)) := by
  cases rxs with
  | ok xs => exact s_forBp hi E E1 h0 hg hb
  | ex c fs =>
    show finS [] (lift (it ρ) ρ _) = _
    rw [show it ρ = _ from hi]
    rfl
  | er => exact trivial
/-- a loop that may return -/
def ctlK {σ β γ : Type} (k : σ → Res γ) (rk : β → γ) (o : Ctl σ β) : Res γ := match o with
  | .go s => k s
  | .out s => k s
  | .ret v => .ok (rk v)
theorem t_forCp (hK : Fin K) {f : σ → α → Res (Ctl σ β)} {xs : List α} {s0 : σ} {k : σ → Res γ} {rk : β → γ} (hi : it ρ = .ok (xs.map ex)) (E : σ → Env) (E1 : σ → α → Env) (h0 : ρ = E s0) (hg : ∀ s x, g (ex x) (E s) = .ok (E1 s x)) (hb : ∀ s x, Rf (finL vs (fSeq F fNext (E1 s x))) (f s x) (ctlO E e))
    (hk : ∀ s, Rf (K (G (E s))) (k s) o) (hr : ∀ v, K (.ok (.rt (e v))) = .ok (o (rk v))) : Rf (K (fSeq (fFor it g (fFgt vs F)) G ρ)) ((forC f xs s0).bind (ctlK k rk)) o := by
  have h := forGo_C hg hb xs s0
  have e1 : fSeq (fFor it g (fFgt vs F)) G ρ = andThen (forGo g (fFgt vs F) (xs.map ex) (E s0)) G := by
    rw [fSeq_ap, fFor_ap hi, h0]
  rw [e1]
  cases q : forC f xs s0 with
  | ok c =>
    rw [q] at h
    cases c with
    | go s' => have h : _ = _ := h; rw [h]; exact hk s'
    | out s' => exact h.elim
    | ret v => have h : _ = _ := h; rw [h]; exact hr v
  | ex c fs => rw [q] at h; obtain ⟨ρ1, h⟩ := h; rw [h]; exact hK.xc _ _ _
  | er => exact trivial
theorem t_forC (hK : Fin K) {f : σ → α → Res (Ctl σ β)} {rxs : Res (List α)} {s0 : σ} {k : σ → Res γ} {rk : β → γ} (hi : Rf (it ρ) rxs (fun xs => xs.map ex)) (E : σ → Env) (E1 : σ → α → Env) (h0 : ρ = E s0) (hg : ∀ s x, g (ex x) (E s) = .ok (E1 s x)) (hb : ∀ s x, Rf (finL vs (fSeq F fNext (E1 s x))) (f s x) (ctlO E e))
    (hk : ∀ s, Rf (K (G (E s))) (k s) o) (hr : ∀ v, K (.ok (.rt (e v))) = .ok (o (rk v))) : Rf (K (fSeq (fFor it g (fFgt vs F)) G ρ)) (rxs.bind fun xs => (forC f xs s0).bind (ctlK k rk)) o := by
  cases rxs with
  | ok xs => exact t_forCp hK hi E E1 h0 hg hb hk hr
  | ex c fs =>
    have : fSeq (fFor it g (fFgt vs F)) G ρ = .ok (.xc c fs ρ) := by
      show andThen (lift (it ρ) ρ _) G = _
      rw [show it ρ = _ from hi]
      rfl
    rw [this]
    exact hK.xc _ _ _
  | er => exact trivial
theorem whileGo_C {c : Env → Res Bool} {E : σ → Env} {rc : σ → Res Bool} {f : σ → Res (Ctl σ β)} (hc : ∀ s, Rf (c (E s)) (rc s) (fun b => b)) (hb : ∀ s, Rf (finL vs (fSeq F fNext (E s))) (f s) (ctlO E e)) : ∀ (n : Nat) (s : σ), LoopC E e (whileGo c (fFgt vs F) n (E s)) (whileC rc f n s)
  | 0, s => trivial
  | n + 1, s => by
    unfold whileC whileGo
    have h1 := hc s
    cases q1 : rc s with
    | ok b =>
      rw [q1] at h1
      rw [show c (E s) = _ from h1]
      cases b with
      | false => exact rfl
      | true =>
        have h := finL_end (hb s)
        dsimp only [Res.bind_ok, lift_ok]
        rw [if_pos rfl, if_pos rfl]
        cases q : f s with
        | ok c' =>
          rw [q] at h
          cases c' with
          | go s' =>
            have ih := whileGo_C hc hb n s'
            rcases finL_nx h with h | h
            · dsimp only [Res.bind_ok, fFgt]
              rw [h]
              exact ih
            · dsimp only [Res.bind_ok, fFgt]
              rw [h]
              exact ih
          | out s' =>
            dsimp only [Res.bind_ok, fFgt]
            rw [finL_bk h]; exact rfl
          | ret v =>
            dsimp only [Res.bind_ok, fFgt]
            rw [finL_rt h]; exact rfl
        | ex c fs =>
          rw [q] at h
          obtain ⟨ρ1, h⟩ := finL_ex h
          dsimp only [Res.bind_ex, fFgt]
          rw [h]
          exact ⟨ρ1, rfl⟩
        | er => exact trivial
    | ex c' fs =>
      rw [q1] at h1
      rw [show c (E s) = _ from h1]
      exact ⟨_, rfl⟩
    | er => exact trivial
theorem s_while {c : Env → Res Bool} {rc : σ → Res Bool} {f : σ → Res (Ctl σ Unit)} {s0 : σ} (E : σ → Env) (h0 : ρ = E s0) (hc : ∀ s, Rf (c (E s)) (rc s) (fun b => b)) (hb : ∀ s, Rf (finL vs (fSeq F fNext (E s))) (f s) (ctlO E eN)) : Rf (finS [] (fWhile c (fFgt vs F) ρ)) ((whileC rc f FUEL s0).bind ctlS) (fun s => .nx (E s)) := by
  have h := whileGo_C hc hb FUEL s0
  unfold fWhile
  cases q : whileC rc f FUEL s0 with
  | ok c =>
    rw [q] at h
    cases c with
    | go s' => have h : _ = _ := h; rw [h0, h]; exact rfl
    | out s' => exact h.elim
    | ret v => exact trivial
  | ex c fs => rw [q] at h; obtain ⟨ρ1, h⟩ := h; rw [h0, h]; exact rfl
  | er => exact trivial
end
end Da
namespace Da
open PySem PySem.Spec L2
section
variable {α β γ δ σ : Type} {K : Res Fl → Res δ} {F G : FS} {ρ : Env} {f fa fb fj : Env → Res D} {e : α → D} {i j : Nat} {r : Res α} {N : Res γ} {o : γ → δ} {fs : Env → Res (List D)} {c : Env → Res Bool} {g1 : D → Res D} {g2 : D → D → Res D}
theorem b_iB {m : Res D} {rb : Res Bool} (h : Rf m rb D.bl) : Rf (m.bind asB) rb (fun b => b) := by
  cases rb with
  | ok b => rw [show m = _ from h]; rfl
  | ex c fs => rw [show m = _ from h]; rfl
  | er => trivial
theorem b_iT {m : Res D} {rb : Res Bool} (h : Rf m rb D.bl) : Rf (m.bind trD) rb (fun b => b) := by
  cases rb with
  | ok b => rw [show m = _ from h]; rfl
  | ex c fs => rw [show m = _ from h]; rfl
  | er => trivial
theorem b_iL {m : Res D} {r : Res (List α)} {q : List α → D} (h : Rf m r q) (hq : ∀ xs, asL (q xs) = .ok (xs.map e)) : Rf (m.bind asL) r (fun xs => xs.map e) := by
  cases r with
  | ok b => rw [show m = _ from h]; exact hq b
  | ex c fs => rw [show m = _ from h]; rfl
  | er => trivial
theorem evChain {g g' : D → D → Res D} {fc : Env → Res D} {x y z : D} {a b : Bool} (ha : fa ρ = .ok x) (hb : fb ρ = .ok y) (hc : fc ρ = .ok z) (h1 : g x y = .ok (.bl a)) (h2 : g' y z = .ok (.bl b)) : fChain g g' fa fb fc ρ = .ok (.bl (a && b)) := by
  unfold fChain
  rw [ha]; show (fb ρ).bind _ = _
  rw [hb]; show (g x y).bind _ = _
  rw [h1]
  cases a with
  | true => show (fc ρ).bind _ = _; rw [hc]; exact h2
  | false => rfl
theorem rOrF {rb : Res Bool} {ca cb : Env → Res Bool} (ha : ca ρ = .ok false) (hb : Rf (cb ρ) rb (fun x => x)) : Rf (fOr ca cb ρ) rb (fun x => x) := by unfold fOr; rw [ha]; exact hb
theorem it_row2 {d1 d2 : D} {t : D} (h : fa ρ = .ok t) (ht : asL t = .ok [d1, d2] := by rfl) : fL fa ρ = .ok [d1, d2] := evL h ht
theorem q_f1 (h : Rf ((fa ρ).bind g1) N o') : Rf (f1 g1 fa ρ) N o' := h
theorem q_f2 (h : Rf ((fa ρ).bind fun x => (fb ρ).bind fun y => g2 x y) N o') : Rf (f2 g2 fa fb ρ) N o' := h
theorem q_on {g : List D → Res D} (h : Rf ((fs ρ).bind g) N o') : Rf (fOn g fs ρ) N o' := h
theorem q_B {o' : γ → Bool} (h : Rf ((f ρ).bind asB) N o') : Rf (fB f ρ) N o' := h
theorem q_Tr {o' : γ → Bool} (h : Rf ((f ρ).bind trD) N o') : Rf (fTr f ρ) N o' := h
theorem q_Not {o' : γ → Bool} (h : Rf ((c ρ).bind fun c => .ok (!c)) N o') : Rf (fNot c ρ) N o' := h
theorem q_L {o' : γ → List D} (h : Rf ((f ρ).bind asL) N o') : Rf (fL f ρ) N o' := h
theorem q_R1 {o' : γ → List D} (h : Rf ((fs ρ).bind gRng1) N o') : Rf (fR1 fs ρ) N o' := h
theorem q_R2 {o' : γ → List D} (h : Rf ((fs ρ).bind gRng2) N o') : Rf (fR2 fs ρ) N o' := h
theorem k_R1 {j : Int} : Rf (gRng1 [.int j]) (rngR j) (fun xs => xs.map D.int) := it_R1 (ρ := []) (fs := fun _ => .ok [.int j]) rfl
theorem k_R2 {i j : Int} : Rf (gRng2 [.int i, .int j]) (rng2R i j) (fun xs => xs.map D.int) := it_R2 (ρ := []) (fs := fun _ => .ok [.int i, .int j]) rfl
theorem set_p {d : D} {ρ' : Env} (hf : f ρ = .ok d) (h : ρ.set i (some d) = ρ') : fSet i f ρ = .ok (.nx ρ') := by
  show lift (f ρ) ρ _ = _
  rw [hf, ← h]
  rfl
theorem s_lift {α : Type} {m : Res α} {k : α → Res Fl} {d : α} {N : Res γ} {o : γ → Fl} (h : m = .ok d) (hk : Rf (finS [] (k d)) N o) : Rf (finS [] (lift m ρ k)) N o := by rw [h]; exact hk
theorem s_liftI {α τ : Type} {m : Res α} {k : α → Res Fl} {r : Res τ} {e : τ → α} {N : τ → Res γ} {o : γ → Fl} (h : Rf m r e) (hk : ∀ x, Rf (finS [] (k (e x))) (N x) o) : Rf (finS [] (lift m ρ k)) (r.bind N) o := by
  cases r with
  | ok v => rw [show m = _ from h]; exact hk v
  | ex c fs => rw [show m = _ from h]; exact rfl
  | er => exact trivial
theorem fApp_at {xs : List D} (h : ρ[i]? = some (some (.lst xs))) : fApp i f ρ = lift (f ρ) ρ fun d => if szOk (xs.length + 1) = true then .ok (.nx (ρ.set i (some (.lst (xs ++ [d]))))) else .er := by unfold fApp; rw [h]
theorem k_app {xs : List α} {d : α} (E : List α → Env) (hE : ∀ ys, ρ.set i (some (eL e ys)) = E ys) : Rf (finS [] (if szOk ((xs.map e).length + 1) = true then .ok (.nx (ρ.set i (some (.lst (xs.map e ++ [e d]))))) else .er)) (appR xs d) (fun ys => .nx (E ys)) := by
  unfold appR
  rw [List.length_map]
  split
  · show Res.ok (Fl.nx _) = Res.ok (Fl.nx _)
    rw [← hE, show eL e (xs ++ [d]) = .lst (xs.map e ++ [e d]) by unfold eL; rw [List.map_append]; rfl]
    rfl
  · trivial
theorem s_app {xs : List α} {d : α} (E : List α → Env) (h : ρ[i]? = some (some (eL e xs))) (hf : f ρ = .ok (e d)) (hE : ∀ ys, ρ.set i (some (eL e ys)) = E ys) : Rf (finS [] (fApp i f ρ)) (appR xs d) (fun ys => .nx (E ys)) := by
  rw [fApp_at h]
  exact s_lift hf (k_app E hE)
theorem s_appI {xs : List α} {r : Res α} (E : List α → Env) (h : ρ[i]? = some (some (eL e xs))) (hf : Rf (f ρ) r e) (hE : ∀ ys, ρ.set i (some (eL e ys)) = E ys) : Rf (finS [] (fApp i f ρ)) (r.bind fun d => appR xs d) (fun ys => .nx (E ys)) := by
  rw [fApp_at h]
  exact s_liftI hf fun d => k_app E hE
theorem fSetIx_at {xs : List D} (h : ρ[i]? = some (some (.lst xs))) : fSetIx i f fj ρ = lift (f ρ) ρ fun d => lift (fj ρ) ρ fun j => match j with
    | .int z => (match ixN xs.length z with
      | some k => .ok (.nx (ρ.set i (some (.lst (xs.set k d)))))
      | none => .er)
    | _ => .er := by unfold fSetIx; rw [h]; try rfl
theorem s_setIx {xs : List α} {d : α} {z : Int} (E : List α → Env) (h : ρ[i]? = some (some (eL e xs))) (hf : f ρ = .ok (e d)) (hj : fj ρ = .ok (.int z)) (hE : ∀ ys, ρ.set i (some (eL e ys)) = E ys) : Rf (finS [] (fSetIx i f fj ρ)) (setR xs z d) (fun ys => .nx (E ys)) := by
  rw [fSetIx_at h]
  refine s_lift hf (s_lift hj ?_)
  unfold setR
  dsimp only
  rw [List.length_map]
  cases ixN xs.length z with
  | some k =>
    show Res.ok (Fl.nx _) = Res.ok (Fl.nx _)
    rw [← hE, show eL e (xs.set k d) = .lst ((xs.map e).set k (e d)) by unfold eL; rw [List.map_set]]
    rfl
  | none => trivial
theorem s_app2 {xs : List (List α)} {d : α} {z : Int} (E : List (List α) → Env) (h : ρ[i]? = some (some (eL (eL e) xs))) (hf : f ρ = .ok (e d)) (hj : fj ρ = .ok (.int z)) (hE : ∀ ys, ρ.set i (some (eL (eL e) ys)) = E ys) : Rf (finS [] (fApp2 i fj f ρ)) (app2R xs z d) (fun ys => .nx (E ys)) := by
  unfold fApp2
  rw [h]
  refine s_lift hj ?_
  unfold app2R
  dsimp only [eL]
  rw [List.length_map]
  cases ixN xs.length z with
  | some k =>
    dsimp only
    rw [List.getElem?_map]
    cases q : xs[k]? with
    | some us =>
      dsimp only [Option.map]
      refine s_lift hf ?_
      rw [List.length_map]
      split
      · show Res.ok (Fl.nx _) = Res.ok (Fl.nx _)
        rw [← hE, show eL (eL e) (xs.set k (us ++ [d])) = .lst ((xs.map (eL e)).set k (.lst (us.map e ++ [e d]))) by
          unfold eL; rw [List.map_set, List.map_append]; rfl]
        rfl
      · trivial
    | none => trivial
  | none => trivial
/-- pops -/
def RfX {α τ : Type} (m : Res (D × Env)) (r : Res (α × τ)) (e : α → D) (E : τ → Env) : Prop := match r with
  | .ok v => m = .ok (e v.1, E v.2)
  | _ => True
theorem x_pop {xs : List α} {z : Int} (E : List α → Env) (h : ρ[i]? = some (some (eL e xs))) (hf : f ρ = .ok (.int z)) (hE : ∀ ys, ρ.set i (some (eL e ys)) = E ys) : RfX (fPop i f ρ) (popR xs z) e E := by
  unfold fPop
  rw [h, hf]
  unfold popR
  dsimp only [eL]
  rw [List.length_map]
  cases q : ixN xs.length z with
  | some k =>
    dsimp only
    rw [List.getElem?_map]
    cases q2 : xs[k]? with
    | some y =>
      dsimp only [Option.map]
      split
      · rename_i hs
        show Res.ok _ = Res.ok _
        rw [← hE]
        show Res.ok (e y, ρ.set i (some (.lst ((xs.map e).eraseIdx k)))) = Res.ok (e y, ρ.set i (some (.lst ((xs.eraseIdx k).map e))))
        rw [show (xs.map e).eraseIdx k = (xs.eraseIdx k).map e by
          rw [List.eraseIdx_eq_take_drop_succ, List.eraseIdx_eq_take_drop_succ, List.map_append, List.map_take, List.map_drop]]
      · trivial
    | none => trivial
  | none => trivial
theorem x_popI {xs : List α} {rz : Res Int} (E : List α → Env) (h : ρ[i]? = some (some (eL e xs))) (hf : Rf (f ρ) rz D.int) (hE : ∀ ys, ρ.set i (some (eL e ys)) = E ys) : RfX (fPop i f ρ) ((nx rz).bind fun z => popR xs z) e E := by
  cases rz with
  | ok z => exact x_pop E h hf hE
  | _ => trivial
theorem x_pop0 {xs : List α} (E : List α → Env) (h : ρ[i]? = some (some (eL e xs))) (hE : ∀ ys, ρ.set i (some (eL e ys)) = E ys) : RfX (fPop0 i ρ) (pop0R xs) e E := by
  unfold fPop0
  rw [h]
  unfold pop0R
  dsimp only [eL]
  rw [List.length_map, List.getElem?_map]
  cases q : xs[xs.length - 1]? with
  | some y =>
    dsimp only [Option.map]
    show Res.ok _ = Res.ok _
    rw [← hE]
    show Res.ok (e y, ρ.set i (some (.lst ((xs.map e).dropLast)))) = Res.ok (e y, ρ.set i (some (.lst ((xs.dropLast).map e))))
    rw [← List.map_dropLast]
  | none => trivial
theorem s_setX {τ : Type} {f : Env → Res (D × Env)} {r : Res (α × τ)} {E1 : τ → Env} (E : α × τ → Env) (hf : RfX (f ρ) r e E1) (hE : ∀ v, (E1 v.2).set i (some (e v.1)) = E v) : Rf (finS [] (fSetX i f ρ)) (nx r) (fun s => .nx (E s)) := by
  cases r with
  | ok v =>
    show finS [] (fSetX i f ρ) = _
    unfold fSetX
    rw [show f ρ = .ok (e v.1, E1 v.2) from hf]
    dsimp only
    rw [hE]
    rfl
  | _ => trivial
theorem s_appX {τ : Type} {f : Env → Res (D × Env)} {r : Res (α × τ)} {E1 : τ → Env} {xs : List α} (E : List α × τ → Env) (h : ρ[i]? = some (some (eL e xs))) (hf : RfX (f ρ) r e E1) (h1 : ∀ t, (E1 t)[i]? = some (some (eL e xs))) (hE : ∀ ys t, (E1 t).set i (some (eL e ys)) = E (ys, t)) :
    Rf (finS [] (fAppX i f ρ)) ((nx r).bind fun v => (appR xs v.1).bind fun ys => .ok (ys, v.2)) (fun s => .nx (E s)) := by
  cases r with
  | ok v =>
    show Rf _ ((appR xs v.1).bind fun ys => .ok (ys, v.2)) _
    unfold fAppX
    rw [h]
    dsimp only [eL]
    rw [show f ρ = .ok (e v.1, E1 v.2) from hf]
    dsimp only
    rw [h1]
    unfold appR
    dsimp only [eL]
    rw [List.length_map]
    split
    · show Res.ok (Fl.nx _) = Res.ok (Fl.nx _)
      rw [← hE, show eL e (xs ++ [v.1]) = .lst (xs.map e ++ [e v.1]) by unfold eL; rw [List.map_append]; rfl]
      rfl
    · trivial
  | _ => trivial
theorem s_fld {c fn : Str} {ns : List Str} {ds : List D} (E : α → Env) (hρ : ρ[i]? = some (some (.obj c ns ds))) (hn : ns.length < 100) (hf : Rf (f ρ) r e) (hE : ∀ v, ρ.set i (some (.obj c (putN fn ns) (putD fn (e v) ns ds))) = E v) : Rf (finS [] (fFld c fn i f ρ)) r (fun s => .nx (E s)) := by
  have h : fFld c fn i f ρ = lift (f ρ) ρ fun d => .ok (.nx (ρ.set i (some (.obj c (putN fn ns) (putD fn d ns ds))))) := by
    unfold fFld
    rw [hρ]
    dsimp only
    rw [if_pos ⟨rfl, hn⟩]
  rw [h]
  cases r with
  | ok v => rw [show f ρ = .ok (e v) from hf]; show finS [] (.ok (.nx _)) = _; rw [hE]; rfl
  | ex c fs => rw [show f ρ = _ from hf]; rfl
  | er => trivial
theorem fld_hit {c f : Str} {ns : List Str} {d : D} {ds : List D} : dFld c f (.obj c (f :: ns) (d :: ds)) = .ok d := by
  unfold dFld
  dsimp only
  rw [if_pos rfl]
  unfold lookF
  rw [if_pos rfl]
theorem fld_skip {c f g : Str} {ns : List Str} {x d : D} {ds : List D} (h : g ≠ f) (k : dFld c f (.obj c ns ds) = .ok d) : dFld c f (.obj c (g :: ns) (x :: ds)) = .ok d := by
  unfold dFld at k ⊢
  dsimp only at k ⊢
  rw [if_pos rfl] at k ⊢
  unfold lookF
  rw [if_neg h]
  exact k
end
class Dat {α : Type} [DecidableEq α] (e : α → D) (k : outParam Nat) : Prop where
  py : ∀ x, ∃ y, D.py (e x) = some y ∧ y.canLay0 = true ∧ y.depth ≤ k
  inj : ∀ x x' y y', D.py (e x) = some y → D.py (e x') = some y' → PyData.eqv y y' = decide (x = x')
section
variable {α β : Type} [DecidableEq α] [DecidableEq β] {e : α → D} {f : β → D} {k l : Nat}
instance : Dat D.int 0 where
  py x := ⟨.int x, rfl, rfl, by simp [PyData.depth]⟩
  inj x x' y y' h h' := by
    cases h; cases h'
    simp only [PyData.eqv]
    by_cases hx : x = x' <;> simp [hx]
instance : Dat D.bl 0 where
  py x := ⟨.bool x, rfl, rfl, by simp [PyData.depth]⟩
  inj x x' y y' h h' := by
    cases h; cases h'
    cases x <;> cases x' <;> rfl
theorem pys_map [Dat e k] : ∀ xs : List α, ∃ ys, D.pys (xs.map e) = some ys ∧ PyData.canLayAll0 ys = true ∧ PyData.depthAll ys ≤ k
  | [] => ⟨[], rfl, rfl, by simp [PyData.depthAll]⟩
  | x :: xs => by
    obtain ⟨y, h1, h2, h3⟩ := Dat.py (e := e) x
    obtain ⟨ys, k1, k2, k3⟩ := pys_map xs
    refine ⟨y :: ys, ?_, ?_, ?_⟩
    · rw [List.map_cons]; unfold D.pys; rw [h1, k1]
    · simp only [PyData.canLayAll0, h2, k2, Bool.and_self]
    · simp only [PyData.depthAll]; omega
theorem pys_inj [Dat e k] : ∀ (xs xs' : List α) (ys ys' : List PyData), D.pys (xs.map e) = some ys → D.pys (xs'.map e) = some ys' → PyData.eqvAll ys ys' = decide (xs = xs')
  | [], [], ys, ys', h, h' => by cases h; cases h'; simp [PyData.eqvAll]
  | [], x' :: xs', ys, ys', h, h' => by
    cases h
    rw [List.map_cons] at h'
    unfold D.pys at h'
    split at h'
    · cases h'; simp [PyData.eqvAll]
    · cases h'
  | x :: xs, [], ys, ys', h, h' => by
    cases h'
    rw [List.map_cons] at h
    unfold D.pys at h
    split at h
    · cases h; simp [PyData.eqvAll]
    · cases h
  | x :: xs, x' :: xs', ys, ys', h, h' => by
    rw [List.map_cons] at h h'
    unfold D.pys at h h'
    split at h
    · rename_i y zs e1 e2
      cases h
      split at h'
      · rename_i y' zs' e1' e2'
        cases h'
        rw [PyData.eqvAll, Dat.inj x x' _ _ e1 e1', pys_inj xs xs' _ _ e2 e2']
        by_cases h1 : x = x' <;> by_cases h2 : xs = xs' <;> simp [h1, h2]
      · cases h'
    · cases h
theorem py_lst' {ds : List D} {ys : List PyData} (h : D.pys ds = some ys) : D.py (.lst ds) = some (.list ys) := by unfold D.py; rw [h]
theorem py_tup' {ds : List D} {ys : List PyData} (h : D.pys ds = some ys) : D.py (.tup ds) = some (.tuple ys) := by unfold D.py; rw [h]
theorem py_lst_of {ds : List D} {y : PyData} (h : D.py (.lst ds) = some y) : ∃ ys, D.pys ds = some ys ∧ y = .list ys := by
  unfold D.py at h
  split at h
  · rename_i ys e; cases h; exact ⟨ys, e, rfl⟩
  · cases h
theorem py_tup_of {ds : List D} {y : PyData} (h : D.py (.tup ds) = some y) : ∃ ys, D.pys ds = some ys ∧ y = .tuple ys := by
  unfold D.py at h
  split at h
  · rename_i ys e; cases h; exact ⟨ys, e, rfl⟩
  · cases h
instance [Dat e k] : Dat (eL e) (k + 1) where
  py xs := by
    obtain ⟨ys, h1, h2, h3⟩ := pys_map (e := e) xs
    refine ⟨.list ys, py_lst' h1, ?_, ?_⟩
    · simp only [PyData.canLay0, h2]
    · simp only [PyData.depth]; omega
  inj x x' y y' h h' := by
    obtain ⟨ys, h1, rfl⟩ := py_lst_of h
    obtain ⟨ys', h1', rfl⟩ := py_lst_of h'
    simp only [PyData.eqv]
    exact pys_inj _ _ _ _ h1 h1'
instance [Dat e k] : Dat (eT e) (k + 1) where
  py xs := by
    obtain ⟨ys, h1, h2, h3⟩ := pys_map (e := e) xs
    refine ⟨.tuple ys, py_tup' h1, ?_, ?_⟩
    · simp only [PyData.canLay0, h2]
    · simp only [PyData.depth]; omega
  inj x x' y y' h h' := by
    obtain ⟨ys, h1, rfl⟩ := py_tup_of h
    obtain ⟨ys', h1', rfl⟩ := py_tup_of h'
    simp only [PyData.eqv]
    exact pys_inj _ _ _ _ h1 h1'
theorem pys2 {a b : D} {y z : PyData} (h1 : D.py a = some y) (h2 : D.py b = some z) : D.pys [a, b] = some [y, z] := by simp [D.pys, h1, h2]
theorem pys2_of {a b : D} {ys : List PyData} (h : D.pys [a, b] = some ys) : ∃ y z, D.py a = some y ∧ D.py b = some z ∧ ys = [y, z] := by
  unfold D.pys at h
  split at h
  · rename_i y zs e1 e2
    unfold D.pys at e2
    split at e2
    · rename_i z ws e3 e4
      cases e4; cases e2; cases h
      exact ⟨y, z, e1, e3, rfl⟩
    · cases e2
  · cases h
instance [Dat e k] [Dat f l] : Dat (eP2 e f) (max k l + 1) where
  py x := by
    obtain ⟨y, h1, h2, h3⟩ := Dat.py (e := e) x.1
    obtain ⟨z, k1, k2, k3⟩ := Dat.py (e := f) x.2
    refine ⟨.tuple [y, z], py_tup' (pys2 h1 k1), ?_, ?_⟩
    · simp only [PyData.canLay0, PyData.canLayAll0, h2, k2, Bool.and_self]
    · simp only [PyData.depth, PyData.depthAll]; omega
  inj x x' y y' h h' := by
    obtain ⟨ys, h1, rfl⟩ := py_tup_of h
    obtain ⟨ys', h1', rfl⟩ := py_tup_of h'
    obtain ⟨a, b, ea, eb, rfl⟩ := pys2_of h1
    obtain ⟨a', b', ea', eb', rfl⟩ := pys2_of h1'
    simp only [PyData.eqv, PyData.eqvAll, Dat.inj _ _ _ _ ea ea', Dat.inj _ _ _ _ eb eb']
    by_cases h1 : x.1 = x'.1 <;> by_cases h2 : x.2 = x'.2 <;> simp [h1, h2, Prod.ext_iff]
instance [Dat e k] : Dat (eP1 e) (k + 1) where
  py x := by
    obtain ⟨y, h1, h2, h3⟩ := Dat.py (e := e) x
    refine ⟨.tuple [y], py_tup' (by simp [D.pys, h1]), ?_, ?_⟩
    · simp only [PyData.canLay0, PyData.canLayAll0, h2, Bool.and_self]
    · simp only [PyData.depth, PyData.depthAll]; omega
  inj x x' y y' h h' := by
    obtain ⟨ys, h1, rfl⟩ := py_tup_of h
    obtain ⟨ys', h1', rfl⟩ := py_tup_of h'
    have q := pys_inj (e := e) [x] [x'] _ _ h1 h1'
    simp only [PyData.eqv]
    rw [q]
    by_cases h1 : x = x' <;> simp [h1]
theorem shp [Dat e k] (hk : k ≤ 64) {x : α} {y : PyData} (h : D.py (e x) = some y) : SeqAt.shaped y = true := by
  obtain ⟨y', h1, h2, h3⟩ := Dat.py (e := e) x
  rw [h] at h1
  cases h1
  unfold SeqAt.shaped
  rw [h2, decide_eq_true (show y.depth ≤ 64 by omega)]
  rfl
theorem eqD_dat [Dat e k] {x x' : α} (hk : k ≤ 64) : eqD (e x) (e x') = .ok (decide (x = x')) := by
  obtain ⟨y, h1, _⟩ := Dat.py (e := e) x
  obtain ⟨y', h1', _⟩ := Dat.py (e := e) x'
  unfold eqD
  rw [h1, h1']
  simp only [shp hk h1, shp hk h1', Bool.and_self, if_true, Dat.inj x x' _ _ h1 h1']
theorem op_eq [Dat e k] {x x' : α} (hk : k ≤ 64 := by decide) : dEq (e x) (e x') = .ok (.bl (decide (x = x'))) := by unfold dEq; rw [eqD_dat hk]; rfl
theorem op_ne [Dat e k] {x x' : α} (hk : k ≤ 64 := by decide) : dNe (e x) (e x') = .ok (.bl (!decide (x = x'))) := by unfold dNe; rw [eqD_dat hk]; rfl
theorem any_in [Dat e k] {x : α} {y : PyData} (hy : D.py (e x) = some y) : ∀ {xs : List α} {ys : List PyData}, D.pys (xs.map e) = some ys → (ys.any fun z => PyData.eqv z y) = decide (x ∈ xs)
  | [], ys, h => by cases h; simp
  | a :: xs, ys, h => by
    rw [List.map_cons] at h
    unfold D.pys at h
    split at h
    · rename_i z zs e1 e2
      cases h
      rw [List.any_cons, any_in hy e2, Dat.inj a x _ _ e1 hy]
      by_cases h1 : a = x
      · simp [h1]
      · simp [h1, Ne.symm h1]
    · cases h
theorem inD_dat [Dat e k] {x : α} {xs : List α} (hk : k < 64) : inD (e x) (xs.map e) = .ok (decide (x ∈ xs)) := by
  obtain ⟨y, h1, _⟩ := Dat.py (e := e) x
  obtain ⟨ys, k1, k2, k3⟩ := pys_map (e := e) xs
  unfold inD
  rw [h1, k1]
  have hs : SeqAt.shaped (.list ys) = true := by
    unfold SeqAt.shaped
    simp only [PyData.canLay0, PyData.depth, k2, Bool.true_and]
    exact decide_eq_true (by omega)
  simp only [shp (by omega) h1, hs, Bool.and_self, if_true, any_in h1 k1]
theorem op_memT [Dat e k] {x : α} {xs : List α} (hk : k < 64 := by decide) : dIn (e x) (eT e xs) = .ok (.bl (decide (x ∈ xs))) := by
  show (inD (e x) (xs.map e)).bind _ = _; rw [inD_dat hk]; rfl
theorem op_nmemL [Dat e k] {x : α} {xs : List α} (hk : k < 64 := by decide) : dNotIn (e x) (eL e xs) = .ok (.bl (!decide (x ∈ xs))) := by
  show (inD (e x) (xs.map e)).bind _ = _; rw [inD_dat hk]; rfl
theorem op_nmemT [Dat e k] {x : α} {xs : List α} (hk : k < 64 := by decide) : dNotIn (e x) (eT e xs) = .ok (.bl (!decide (x ∈ xs))) := by
  show (inD (e x) (xs.map e)).bind _ = _; rw [inD_dat hk]; rfl
end
theorem isi_of {T : String} {d : D} {b : Bool} (h : isTy T d = .ok b) : dIsi T d = .ok (.bl b) := by unfold dIsi; rw [h]; rfl
theorem isi2_a {T U : String} {d : D} (h : isTy T d = .ok true) : dIsi2 T U d = .ok (.bl true) := by unfold dIsi2; rw [h]; rfl
theorem isi2_b {T U : String} {d : D} {b : Bool} (h : isTy T d = .ok false) (k : isTy U d = .ok b) : dIsi2 T U d = .ok (.bl b) := by unfold dIsi2; rw [h]; show (isTy U d).bind _ = _; rw [k]; rfl
theorem forR_inv {α σ : Type} {f : σ → α → Res σ} {xs : List α} {s : σ} (P : Nat → σ → Prop) (h0 : P 0 s) (hs : ∀ i x s, xs[i]? = some x → P i s → ∃ s', f s x = .ok s' ∧ P (i + 1) s') : ∃ s', forR f xs s = .ok s' ∧ P xs.length s' := by
  suffices h : ∀ (ys : List α) (k : Nat) (s : σ), P k s → (∀ i x, ys[i]? = some x → xs[k + i]? = some x) → k + ys.length = xs.length → ∃ s', forR f ys s = .ok s' ∧ P xs.length s' by
    exact h xs 0 s h0 (fun i x e => by rw [Nat.zero_add]; exact e) (Nat.zero_add _)
  intro ys
  induction ys with
  | nil => intro k s hp _ hl; exact ⟨s, rfl, by rw [← hl]; exact hp⟩
  | cons y ys ih =>
    intro k s hp hx hl
    obtain ⟨s1, e1, p1⟩ := hs k y s (by have := hx 0 y rfl; simpa using this) hp
    obtain ⟨s2, e2, p2⟩ := ih (k + 1) s1 p1 (fun i x e => by
      have := hx (i + 1) x (by simpa using e)
      rw [show k + 1 + i = k + (i + 1) by omega]; exact this) (by rw [List.length_cons] at hl; omega)
    exact ⟨s2, by unfold forR; rw [e1]; exact e2, p2⟩
theorem forC_inv {α σ β : Type} {f : σ → α → Res (Ctl σ β)} {xs : List α} {s : σ} (Q : Ctl σ β → Prop) (P : Nat → σ → Prop) (h0 : P 0 s) (hs : ∀ i x s, xs[i]? = some x → P i s → ∃ o, f s x = .ok o ∧ (match o with
    | .go s' => P (i + 1) s'
    | .out s' => Q (.go s')
    | .ret b => Q (.ret b))) (hd : ∀ s, P xs.length s → Q (.go s)) : ∃ o, forC f xs s = .ok o ∧ Q o := by
  suffices h : ∀ (ys : List α) (k : Nat) (s : σ), P k s → (∀ i x, ys[i]? = some x → xs[k + i]? = some x) → k + ys.length = xs.length → ∃ o, forC f ys s = .ok o ∧ Q o by
    exact h xs 0 s h0 (fun i x e => by rw [Nat.zero_add]; exact e) (Nat.zero_add _)
  intro ys
  induction ys with
  | nil => intro k s hp _ hl; exact ⟨_, rfl, hd s (by rw [← hl]; exact hp)⟩
  | cons y ys ih =>
    intro k s hp hx hl
    obtain ⟨o, e1, p1⟩ := hs k y s (by have := hx 0 y rfl; simpa using this) hp
    cases o with
    | go s1 =>
      obtain ⟨o2, e2, p2⟩ := ih (k + 1) s1 p1 (fun i x e => by
        have := hx (i + 1) x (by simpa using e)
        rw [show k + 1 + i = k + (i + 1) by omega]; exact this) (by rw [List.length_cons] at hl; omega)
      exact ⟨o2, by unfold forC; rw [e1]; exact e2, p2⟩
    | out s1 => exact ⟨.go s1, by unfold forC; rw [e1]; rfl, p1⟩
    | ret b => exact ⟨.ret b, by unfold forC; rw [e1]; rfl, p1⟩
theorem lcR_map {α β : Type} {xs : List α} {f : α → Res β} {g : α → β} (hz : xs.length ≤ 1000000) (h : ∀ x ∈ xs, f x = .ok (g x)) : lcR xs (fun _ => .ok true) f = .ok (xs.map g) := by
  unfold lcR
  rw [if_pos (szOk_yes hz)]
  clear hz
  induction xs with
  | nil => rfl
  | cons x xs ih =>
    unfold lcR.go
    rw [h x List.mem_cons_self, ih fun y hy => h y (List.mem_cons_of_mem _ hy)]
    rfl
theorem lcR_filter {α β : Type} {xs : List α} {c : α → Res Bool} {p : α → Bool} {f : α → Res β} {g : α → β} (hz : xs.length ≤ 1000000) (hc : ∀ x ∈ xs, c x = .ok (p x)) (h : ∀ x ∈ xs, p x = true → f x = .ok (g x)) : lcR xs c f = .ok ((xs.filter p).map g) := by
  unfold lcR
  rw [if_pos (szOk_yes hz)]
  clear hz
  induction xs with
  | nil => rfl
  | cons x xs ih =>
    unfold lcR.go
    rw [hc x List.mem_cons_self, ih (fun y hy => hc y (List.mem_cons_of_mem _ hy)) fun y hy => h y (List.mem_cons_of_mem _ hy), List.filter_cons]
    cases q : p x with
    | true => rw [h x List.mem_cons_self q]; rfl
    | false => rfl
end Da
namespace Da
theorem op_isN {α : Type} {e : α → D} (h : ∀ v, dIsN (e v) = .ok (.bl false)) {x : Option α} : dIsN (eO e x) = .ok (.bl (Option.isNone x)) := by
  cases x with
  | none => rfl
  | some v => exact h v
end Da
namespace Da
open PySem PySem.Spec L2
section
variable {α β γ δ : Type} {K : Res Fl → Res δ} {F G : FS} {ρ : Env} {r : Res γ} {o : γ → δ} {c : Str} {ns : List Str} {fs : Env → Res (List D)} {l : List (Str × Bool)} {i k : Nat}
theorem rf_ex {m : Res β} {e : α → β} {fs : List (Str × D)} (h : m = .ex c fs) : Rf m (.ex c fs : Res α) e := h
theorem t_raise (hK : Fin K) (h : Rf ((fs ρ).bind fun ds => if ds.length = ns.length then (.ex c (ns.zip ds).reverse : Res δ) else .er) r o) : Rf (K (fSeq (fRaise c ns fs) G ρ)) r o := by
  unfold fSeq fRaise
  cases e : fs ρ with
  | ok ds =>
    rw [e] at h
    have h : Rf (if ds.length = ns.length then (.ex c (ns.zip ds).reverse : Res δ) else .er) r o := h
    show Rf (K (match (if ds.length = ns.length then .ok (.xc c (ns.zip ds).reverse ρ) else .er : Res Fl) with | .ok (.nx ρ') => G ρ' | o => o)) r o
    split at h
    · rename_i hl
      rw [if_pos hl]
      show Rf (K (.ok (.xc c (ns.zip ds).reverse ρ))) r o
      rw [hK.xc]
      exact h
    · cases r with
      | ok v => exact nomatch (show (Res.er : Res δ) = _ from h)
      | ex c fs => exact nomatch (show (Res.er : Res δ) = _ from h)
      | er => exact trivial
  | ex c' fs' =>
    rw [e] at h
    show Rf (K (.ok (.xc c' fs' ρ))) r o
    rw [hK.xc]
    exact h
  | er =>
    rw [e] at h
    cases r with
    | ok v => exact nomatch (show (Res.er : Res δ) = _ from h)
    | ex c fs => exact nomatch (show (Res.er : Res δ) = _ from h)
    | er => exact trivial
/-- a clause -/
def tryR (l : List (Str × Bool)) (r : Res γ) (g : Str → List (Str × D) → Res γ) : Res γ := match r with
  | .ex c fs => (match askOf l c with
    | some true => nx (g c fs)
    | some false => .ex c fs
    | none => .er)
  | r => r
@[simp] theorem tryR_ok {v : γ} {g : Str → List (Str × D) → Res γ} : tryR l (.ok v) g = .ok v := rfl
end
def sortPR (ps : List (Int × Int)) : Res (List (Int × Int)) := if (ps.all fun p => decide (P64 p)) = true ∧ ps.length < 64 then .ok (sortP ps) else .er
theorem pairsD_map : ∀ {ps : List (Int × Int)}, (ps.all fun p => decide (P64 p)) = true → pairsD (ps.map (eP2 D.int D.int)) = some ps
  | [], _ => rfl
  | p :: ps, h => by
    rw [List.all_cons, Bool.and_eq_true] at h
    have h1 : P64 p := of_decide_eq_true h.1
    show (match pairD (.tup [.int p.1, .int p.2]), pairsD (ps.map (eP2 D.int D.int)) with | some p, some ps => some (p :: ps) | _, _ => none) = _
    rw [pairsD_map h.2, show pairD (.tup [.int p.1, .int p.2]) = some p from if_pos h1]
theorem rf_sortSc {vs : List Nat} {it : Env → Res (List D)} {g : D → Env → Res Env} {c : Env → Res Bool} {f : Env → Res D} {ρ : Env} {r : Res (List (Int × Int))} (h : Rf (fLc vs it g c f ρ) r (eL (eP2 D.int D.int))) : Rf (fSortSc vs it g c f ρ) (r.bind sortPR) (eL (eP2 D.int D.int)) := by
  unfold fLc at h
  unfold fSortSc
  cases ei : it ρ with
  | er => rw [ei] at h; cases r with
    | er => exact trivial
    | ok v => exact nomatch (show (Res.er : Res D) = _ from h)
    | ex c fs => exact nomatch (show (Res.er : Res D) = _ from h)
  | ex c' fs' => rw [ei] at h; cases r with
    | er => exact trivial
    | ok v => exact nomatch (show (Res.ex c' fs' : Res D) = _ from h)
    | ex c fs => exact h
  | ok xs =>
    rw [ei] at h
    cases r with
    | er => exact trivial
    | ex c2 fs =>
      have h : (if szOk xs.length = true then asLst (lcGo g c f (wipeD ρ vs) xs) else .er) = Res.ex c2 fs := h
      split at h
      · unfold asLst at h
        split at h <;> cases h
      · cases h
    | ok ps =>
      have h : (if szOk xs.length = true then asLst (lcGo g c f (wipeD ρ vs) xs) else .er) = Res.ok (eL (eP2 D.int D.int) ps) := h
      split at h
      · unfold asLst at h
        split at h
        · rename_i ys ey
          have h : ys = ps.map (eP2 D.int D.int) := by
            injection h with h
            injection h
          subst h
          show Rf (match lcGo g c f (wipeD ρ vs) xs with | .ok ys => (match pairsD ys with | some ps => if ps.length < 64 then (Res.ok (D.lst ((sortP ps).map pD)) : Res D) else .er | none => .er) | _ => .er) (sortPR ps) _
          rw [ey]
          dsimp only
          unfold sortPR
          by_cases hh : (ps.all fun p => decide (P64 p)) = true ∧ ps.length < 64
          · rw [pairsD_map hh.1, if_pos hh]
            dsimp only
            rw [if_pos hh.2]
            exact rfl
          · rw [if_neg hh]
            exact trivial
        · cases h
      · cases h
def leP (p q : Int × Int) : Bool := decide (p.1 < q.1 ∨ (p.1 = q.1 ∧ p.2 ≤ q.2))
theorem leD_pair {p q : Int × Int} : leD (eP2 D.int D.int p) (eP2 D.int D.int q) = leP p q := by
  have := congrFun (congrFun (PySem.W.dataLe_ii (fun b : Int × Int => b.1) (fun b => b.2)) p) q
  exact this
theorem pys_pairs : ∀ ps : List (Int × Int), D.pys (ps.map (eP2 D.int D.int)) = some (ps.map fun p => .tuple [.int p.1, .int p.2])
  | [] => rfl
  | p :: ps => by
    rw [List.map_cons]
    unfold D.pys
    rw [pys_pairs ps]
    rfl
theorem en_pairs (ps : List (Int × Int)) : (ps.map (eP2 D.int D.int)).map D.en = ps.map fun p => PyData.tuple [.int p.1, .int p.2] := by
  rw [List.map_map]
  exact List.map_congr_left fun p _ => rfl
theorem srt_pairs (ps : List (Int × Int)) : SrtOk (ps.map (eP2 D.int D.int)) := by
  refine ⟨⟨_, pys_pairs ps⟩, ?_, ?_, fun d hd => ?_⟩
  · rw [en_pairs]
    exact PySem.W.AllAlike.of fun _ _ => by simp [PySem.W.alike, PySem.W.alikeAll]
  · rw [en_pairs]
    exact PySem.W.Sortable.tuples fun p => ⟨_, _, rfl⟩
  · obtain ⟨p, _, rfl⟩ := List.mem_map.mp hd
    show PyData.depth (.tuple [.int p.1, .int p.2]) ≤ 20
    simp [PyData.depth, PyData.depthAll]
theorem sort_pairs (ps : List (Int × Int)) : (ps.map (eP2 D.int D.int)).mergeSort leD = (ps.mergeSort leP).map (eP2 D.int D.int) :=
  (List.map_mergeSort (r := leP) (s := leD) (f := eP2 D.int D.int) (l := ps) (fun a _ b _ => (leD_pair).symm)).symm
theorem op_sortLP {xs : List (Int × Int)} : dSorted (eL (eP2 D.int D.int) xs) = .ok (eL (eP2 D.int D.int) (xs.mergeSort leP)) := by
  show (if srtOk (xs.map (eP2 D.int D.int)) = true then _ else _) = _
  rw [if_pos (show srtOk _ = true from stuck_iff.mpr (srt_pairs xs)), sort_pairs]
  rfl
def unO {α : Type} : Option α → Res α
  | some v => .ok v
  | none => .er
@[simp] theorem unO_some {α : Type} {v : α} : unO (some v) = .ok v := rfl
theorem rf_unO {α : Type} {m : Res D} {e : α → D} {x : Option α} (h : m = .ok (eO e x)) : Rf m (unO x) e := by
  cases x with
  | none => exact trivial
  | some v => exact h
instance : Dat (eO D.int) 0 where
  py x := by
    cases x with
    | none => exact ⟨.none, rfl, rfl, by simp [PyData.depth]⟩
    | some v => exact ⟨.int v, rfl, rfl, by simp [PyData.depth]⟩
  inj x x' y y' h h' := by
    cases x with
    | none =>
      cases h
      cases x' with
      | none => cases h'; simp [PyData.eqv]
      | some v => cases h'; simp [PyData.eqv]
    | some u =>
      cases h
      cases x' with
      | none => cases h'; simp [PyData.eqv]
      | some v =>
        cases h'
        simp [PyData.eqv]
        by_cases h : u = v <;> simp [h]
/-- membership, by the told equality -/
def hasB {α : Type} [DecidableEq α] (x : α) (xs : List α) : Bool := @decide (x ∈ xs) (@List.instDecidableMemOfLawfulBEq α instBEqOfDecidableEq inferInstance x xs)
theorem hasB_iff {α : Type} [DecidableEq α] {x : α} {xs : List α} : hasB x xs = true ↔ x ∈ xs := by unfold hasB; exact decide_eq_true_iff
/-- by cases of what may be None -/
def optC {τ γ : Type} (x : Option τ) (n : Res γ) (f : τ → Res γ) : Res γ := match x with
  | none => n
  | some y => f y
@[simp] theorem optC_none {τ γ : Type} {n : Res γ} {f : τ → Res γ} : optC none n f = n := rfl
@[simp] theorem optC_some {τ γ : Type} {y : τ} {n : Res γ} {f : τ → Res γ} : optC (some y) n f = f y := rfl
theorem t_ifC {τ δ γ : Type} {K : Res Fl → Res δ} {F : FS} {o : γ → δ} {N : Res γ} {x : Option τ} {n2 : τ → Res γ} (E : Option τ → Env) (h1 : Rf (K (F (E none))) N o) (h2 : ∀ y, Rf (K (F (E (some y)))) (n2 y) o) : Rf (K (F (E x))) (optC x N n2) o := by
  cases x with
  | none => exact h1
  | some y => exact h2 y
end Da
namespace Da
open PySem PySem.Spec L2
def lenSetR (xs : List Int) : Res Int := if xs.length ≤ 1000 then .ok ((dedupI xs).length : Int) else .er
/-- items popped off a state -/
def lcXR {α β σ : Type} (xs : List α) (s : σ) (f : σ → α → Res (β × σ)) : Res (List β × σ) := if szOk xs.length = true then go s xs else .er
where go : σ → List α → Res (List β × σ)
  | s, [] => .ok ([], s)
  | s, x :: xs => (nx (f s x)).bind fun v => (go v.2 xs).bind fun w => .ok (v.1 :: w.1, w.2)
section
variable {α β γ δ σ τ : Type} {K : Res Fl → Res δ} {F G : FS} {Fk : Nat → FS} {ρ : Env} {f fa fb fj fj2 : Env → Res D} {e : α → D} {i j x y k : Nat} {r : Res α} {N : Res γ} {o : γ → δ}
theorem op_lenSetOf {xs : List Int} : Rf (lenSetOf (xs.map D.int)) (lenSetR xs) D.int := by
  unfold lenSetR lenSetOf
  rw [intsD_map]
  dsimp only
  split
  · exact rfl
  · exact trivial
theorem op_lenSet {xs : List Int} : Rf (dLenSet (eT D.int xs)) (lenSetR xs) D.int := op_lenSetOf
theorem op_cutLL {xs : List α} {lo hi : Option Int} : dCutL (eL e xs) lo hi = .ok (eL e (cutN xs lo hi)) := by
  show Res.ok (D.lst (cutD (xs.map e) lo hi)) = Res.ok (D.lst ((cutN xs lo hi).map e))
  unfold cutD cutN
  rw [List.length_map, List.map_take, List.map_drop]
variable {ex : α → D} {eb : β → D} {it : Env → Res (List D)} {g : D → Env → Res Env} {fx : Env → Res (D × Env)} {vs : List Nat}
theorem lcXgo_rf {rx : σ → α → Res (β × σ)} {E : σ → Env} {E1 : σ → α → Env} {E3 : σ → α → σ → Env} (hg : ∀ s x, g (ex x) (E s) = .ok (E1 s x)) (hx : ∀ s x, RfX (fx (E1 s x)) (rx s x) eb (E3 s x)) (hw : ∀ s x s', wipeD (E3 s x s') vs = E s') : ∀ (xs : List α) (s : σ), match lcXR.go rx s xs with
    | .ok v => lcGoX g fx vs (E s) (xs.map ex) = .ok (v.1.map eb, E v.2)
    | .ex _ _ => False
    | .er => True
  | [], s => rfl
  | x :: xs, s => by
    unfold lcXR.go
    rw [List.map_cons]
    unfold lcGoX
    rw [hg]
    have h2 := hx s x
    cases q : rx s x with
    | ok v =>
      rw [q] at h2
      have h2 : fx (E1 s x) = .ok (eb v.1, E3 s x v.2) := h2
      dsimp only
      rw [h2]
      dsimp only [nx_ok, Res.bind_ok]
      rw [hw]
      have ih := lcXgo_rf hg hx hw xs v.2
      cases q3 : lcXR.go rx v.2 xs with
      | ok w => rw [q3] at ih; dsimp only at ih ⊢; rw [ih]; rfl
      | ex _ _ => rw [q3] at ih; exact ih.elim
      | er => exact trivial
    | ex _ _ => exact trivial
    | er => exact trivial
theorem s_setLcX {rx : σ → α → Res (β × σ)} {xs : List α} {s0 : σ} (hi : it ρ = .ok (xs.map ex)) (E : σ → Env) (E1 : σ → α → Env) (E3 : σ → α → σ → Env) (EE : List β × σ → Env) (h0 : wipeD ρ vs = E s0) (hg : ∀ s x, g (ex x) (E s) = .ok (E1 s x)) (hx : ∀ s x, RfX (fx (E1 s x)) (rx s x) eb (E3 s x)) (hw : ∀ s x s', wipeD (E3 s x s') vs = E s') (hE : ∀ v, (E v.2).set i (some (eL eb v.1)) = EE v) :
    Rf (finS [] (fSetLcX i vs it g fx ρ)) (lcXR xs s0 rx) (fun v => .nx (EE v)) := by
  unfold fSetLcX lcXR
  rw [hi, lift_ok, List.length_map]
  split
  · rw [h0]
    have := lcXgo_rf hg hx hw xs s0
    cases q : lcXR.go rx s0 xs with
    | ok v =>
      rw [q] at this
      dsimp only at this
      rw [this]
      show Res.ok (Fl.nx _) = Res.ok (Fl.nx _)
      rw [← hE]
      rfl
    | ex _ _ => rw [q] at this; exact this.elim
    | er => exact trivial
  · exact trivial
theorem s_setLcXI {rx : σ → α → Res (β × σ)} {rxs : Res (List α)} {s0 : σ} (hi : Rf (it ρ) rxs (fun xs => xs.map ex)) (E : σ → Env) (E1 : σ → α → Env) (E3 : σ → α → σ → Env) (EE : List β × σ → Env) (h0 : wipeD ρ vs = E s0) (hg : ∀ s x, g (ex x) (E s) = .ok (E1 s x)) (hx : ∀ s x, RfX (fx (E1 s x)) (rx s x) eb (E3 s x)) (hw : ∀ s x s', wipeD (E3 s x s') vs = E s') (hE : ∀ v, (E v.2).set i (some (eL eb v.1)) = EE v) :
    Rf (finS [] (fSetLcX i vs it g fx ρ)) (rxs.bind fun xs => lcXR xs s0 rx) (fun v => .nx (EE v)) := by
  cases rxs with
  | ok xs => exact s_setLcX hi E E1 E3 EE h0 hg hx hw hE
  | ex c fs =>
    show finS [] (fSetLcX i vs it g fx ρ) = _
    unfold fSetLcX
    rw [show it ρ = _ from hi, lift_ex]
    rfl
  | er => exact trivial
end
end Da
namespace Da
open PySem PySem.Spec L2
theorem cv_L {α β : Type} {e : α → D} {e' : β → D} {c : α → β} (p : ∀ x, e x = e' (c x)) (xs : List α) : eL e xs = eL e' (xs.map c) := by
  unfold eL; rw [List.map_map]; congr 1; exact List.map_congr_left fun x _ => p x
theorem cv_T {α β : Type} {e : α → D} {e' : β → D} {c : α → β} (p : ∀ x, e x = e' (c x)) (xs : List α) : eT e xs = eT e' (xs.map c) := by
  unfold eT; rw [List.map_map]; congr 1; exact List.map_congr_left fun x _ => p x
end Da
namespace Kx
open PySem PySem.Spec L2 Da
section
variable {α κ γ : Type} {ρ : Da.Env} {fa fb fc : Da.Env → Res D} {x y z d : D} {g3 : D → D → D → Res D} {N : Res γ} {o' : γ → D}
theorem ev3 (ha : fa ρ = .ok x) (hb : fb ρ = .ok y) (hc : fc ρ = .ok z) (hg : g3 x y z = .ok d) : f3 g3 fa fb fc ρ = .ok d := by
  unfold f3
  rw [ha]
  show (fb ρ).bind _ = _
  rw [hb]
  show (fc ρ).bind _ = _
  rw [hc]
  exact hg
end
end Kx
namespace Kx
open PySem PySem.Spec L2 Da
section
variable {α β γ δ : Type} [DecidableEq α] [DecidableEq β] [DecidableEq γ] [DecidableEq δ] {e : α → D} {f : β → D} {g : γ → D} {h : δ → D} {k l m n : Nat}
theorem pys3 {a b c : D} {ys : List PyData} (q : D.pys [a, b, c] = some ys) : ∃ x y z, ys = [x, y, z] ∧ D.py a = some x ∧ D.py b = some y ∧ D.py c = some z := by
  unfold D.pys at q
  split at q
  · rename_i x xs e1 e2
    cases q
    unfold D.pys at e2
    split at e2
    · rename_i y ys e3 e4
      cases e2
      unfold D.pys at e4
      split at e4
      · rename_i z zs e5 e6
        cases e4
        cases e6
        exact ⟨x, y, z, rfl, e1, e3, e5⟩
      · cases e4
    · cases e2
  · cases q
theorem pys4 {a b c d : D} {ys : List PyData} (q : D.pys [a, b, c, d] = some ys) : ∃ x y z w, ys = [x, y, z, w] ∧ D.py a = some x ∧ D.py b = some y ∧ D.py c = some z ∧ D.py d = some w := by
  unfold D.pys at q
  split at q
  · rename_i x xs e1 e2
    cases q
    obtain ⟨y, z, w, rfl, h2, h3, h4⟩ := pys3 e2
    exact ⟨x, y, z, w, rfl, e1, h2, h3, h4⟩
  · cases q
instance [Dat e k] [Dat f l] [Dat g m] [Dat h n] : Dat (eH4 e f g h) (max (max k l) (max m n) + 1) where
  py p := by
    obtain ⟨y1, a1, b1, c1⟩ := Dat.py (e := e) p.1
    obtain ⟨y2, a2, b2, c2⟩ := Dat.py (e := f) p.2.1
    obtain ⟨y3, a3, b3, c3⟩ := Dat.py (e := g) p.2.2.1
    obtain ⟨y4, a4, b4, c4⟩ := Dat.py (e := h) p.2.2.2
    refine ⟨.list [y1, y2, y3, y4], py_lst' ?_, ?_, ?_⟩
    · simp only [D.pys, a1, a2, a3, a4]
    · simp only [PyData.canLay0, PyData.canLayAll0, b1, b2, b3, b4, Bool.and_self]
    · simp only [PyData.depth, PyData.depthAll]; omega
  inj p q y y' u u' := by
    obtain ⟨ys, w, rfl⟩ := py_lst_of u
    obtain ⟨ys', w', rfl⟩ := py_lst_of u'
    obtain ⟨y1, y2, y3, y4, rfl, a1, a2, a3, a4⟩ := pys4 w
    obtain ⟨z1, z2, z3, z4, rfl, b1, b2, b3, b4⟩ := pys4 w'
    simp only [PyData.eqv, PyData.eqvAll, Bool.and_true]
    rw [Dat.inj p.1 q.1 _ _ a1 b1, Dat.inj p.2.1 q.2.1 _ _ a2 b2, Dat.inj p.2.2.1 q.2.2.1 _ _ a3 b3, Dat.inj p.2.2.2 q.2.2.2 _ _ a4 b4]
    obtain ⟨p1, p2, p3, p4⟩ := p
    obtain ⟨q1, q2, q3, q4⟩ := q
    by_cases h1 : p1 = q1 <;> by_cases h2 : p2 = q2 <;> by_cases h3 : p3 = q3 <;> by_cases h4 : p4 = q4 <;> simp [h1, h2, h3, h4]
instance [Dat e k] [Dat f l] [Dat g m] [Dat h n] : Dat (eP4 e f g h) (max (max k l) (max m n) + 1) where
  py p := by
    obtain ⟨y1, a1, b1, c1⟩ := Dat.py (e := e) p.1
    obtain ⟨y2, a2, b2, c2⟩ := Dat.py (e := f) p.2.1
    obtain ⟨y3, a3, b3, c3⟩ := Dat.py (e := g) p.2.2.1
    obtain ⟨y4, a4, b4, c4⟩ := Dat.py (e := h) p.2.2.2
    refine ⟨.tuple [y1, y2, y3, y4], py_tup' ?_, ?_, ?_⟩
    · simp only [D.pys, a1, a2, a3, a4]
    · simp only [PyData.canLay0, PyData.canLayAll0, b1, b2, b3, b4, Bool.and_self]
    · simp only [PyData.depth, PyData.depthAll]; omega
  inj p q y y' u u' := by
    obtain ⟨ys, w, rfl⟩ := py_tup_of u
    obtain ⟨ys', w', rfl⟩ := py_tup_of u'
    obtain ⟨y1, y2, y3, y4, rfl, a1, a2, a3, a4⟩ := pys4 w
    obtain ⟨z1, z2, z3, z4, rfl, b1, b2, b3, b4⟩ := pys4 w'
    simp only [PyData.eqv, PyData.eqvAll, Bool.and_true]
    rw [Dat.inj p.1 q.1 _ _ a1 b1, Dat.inj p.2.1 q.2.1 _ _ a2 b2, Dat.inj p.2.2.1 q.2.2.1 _ _ a3 b3, Dat.inj p.2.2.2 q.2.2.2 _ _ a4 b4]
    obtain ⟨p1, p2, p3, p4⟩ := p
    obtain ⟨q1, q2, q3, q4⟩ := q
    by_cases h1 : p1 = q1 <;> by_cases h2 : p2 = q2 <;> by_cases h3 : p3 = q3 <;> by_cases h4 : p4 = q4 <;> simp [h1, h2, h3, h4]
end
end Kx
namespace Kx
open PySem PySem.Spec L2 Da
def un3R {α : Type} : List α → Res (α × α × α)
  | [a, b, c] => .ok (a, b, c)
  | _ => .er
def mapU {α β : Type} (f : α → Res β) : List α → Res (List β)
  | [] => .ok []
  | x :: xs => (nx (f x)).bind fun y => (mapU f xs).bind fun ys => .ok (y :: ys)
/-- a conversion that may fail, the data the same -/
def Cvt {α β : Type} (f : α → Res β) (e : α → D) (e' : β → D) : Prop := ∀ x y, f x = .ok y → e x = e' y
section
variable {α β : Type} {m : Res D} {e : α → D} {e' : β → D} {f : α → Res β} {r : Res α}
theorem cvt3 {e : α → D} : Cvt un3R (eT e) (eP3 e e e) := fun x y h => by
  unfold un3R at h
  split at h
  · cases h; rfl
  · cases h
theorem mapU_ok (c : Cvt f e e') : ∀ {xs : List α} {ys : List β}, mapU f xs = .ok ys → xs.map e = ys.map e'
  | [], ys, h => by cases h; rfl
  | x :: xs, ys, h => by
    unfold mapU at h
    cases hf : f x with
    | ok y =>
      rw [hf] at h
      cases hm : mapU f xs with
      | ok zs =>
        rw [hm] at h
        cases h
        rw [List.map_cons, List.map_cons, c x y hf, mapU_ok c hm]
      | ex _ _ => rw [hm] at h; cases h
      | er => rw [hm] at h; cases h
    | ex _ _ => rw [hf] at h; cases h
    | er => rw [hf] at h; cases h
theorem rf_cvts {m : Res (List D)} {r : Res (List α)} (c : Cvt f e e') (h : Rf m r fun xs => xs.map e) : Rf m (r.bind fun x => nx (mapU f x)) fun xs => xs.map e' := by
  cases r with
  | ok xs =>
    show Rf m (nx (mapU f xs)) _
    cases hf : mapU f xs with
    | ok ys =>
      show m = .ok (ys.map e')
      rw [← mapU_ok c hf]
      exact h
    | _ => exact trivial
  | ex c fs => exact h
  | er => exact trivial
end
end Kx
namespace Da
open PySem PySem.Spec L2
section
variable {α β γ : Type} [DecidableEq α] [DecidableEq β] [DecidableEq γ] {e : α → D} {f : β → D} {g : γ → D} {k l m : Nat}
instance [Dat e k] [Dat f l] [Dat g m] : Dat (eP3 e f g) (max (max k l) m + 1) where
  py p := by
    obtain ⟨y1, a1, b1, c1⟩ := Dat.py (e := e) p.1
    obtain ⟨y2, a2, b2, c2⟩ := Dat.py (e := f) p.2.1
    obtain ⟨y3, a3, b3, c3⟩ := Dat.py (e := g) p.2.2
    refine ⟨.tuple [y1, y2, y3], py_tup' ?_, ?_, ?_⟩
    · simp only [D.pys, a1, a2, a3]
    · simp only [PyData.canLay0, PyData.canLayAll0, b1, b2, b3, Bool.and_self]
    · simp only [PyData.depth, PyData.depthAll]; omega
  inj p q y y' u u' := by
    obtain ⟨ys, w, rfl⟩ := py_tup_of u
    obtain ⟨ys', w', rfl⟩ := py_tup_of u'
    obtain ⟨y1, y2, y3, rfl, a1, a2, a3⟩ := Kx.pys3 w
    obtain ⟨z1, z2, z3, rfl, b1, b2, b3⟩ := Kx.pys3 w'
    simp only [PyData.eqv, PyData.eqvAll, Bool.and_true]
    rw [Dat.inj p.1 q.1 _ _ a1 b1, Dat.inj p.2.1 q.2.1 _ _ a2 b2, Dat.inj p.2.2 q.2.2 _ _ a3 b3]
    obtain ⟨p1, p2, p3⟩ := p
    obtain ⟨q1, q2, q3⟩ := q
    by_cases h1 : p1 = q1 <;> by_cases h2 : p2 = q2 <;> by_cases h3 : p3 = q3 <;> simp [h1, h2, h3]
end
end Da
namespace Da
open PySem PySem.Spec L2
def leT (a b : List Int) : Bool := leD (eT D.int a) (eT D.int b)
theorem en_tups (xs : List (List Int)) : (xs.map (eT D.int)).map D.en = xs.map fun ns => PyData.tuple (ns.map PyData.int) := by
  rw [List.map_map]
  refine List.map_congr_left fun ns _ => ?_
  show D.en (.tup (ns.map D.int)) = _
  have h : D.py (.tup (ns.map D.int)) = some (.tuple (ns.map PyData.int)) := by
    unfold D.py
    rw [pys_ints]
  unfold D.en
  rw [h]
  rfl
theorem pys_tups : ∀ xs : List (List Int), ∃ bs, D.pys (xs.map (eT D.int)) = some bs
  | [] => ⟨[], rfl⟩
  | ns :: xs => by
    obtain ⟨bs, e⟩ := pys_tups xs
    have h : D.py (eT D.int ns) = some (.tuple (ns.map PyData.int)) := by
      show D.py (.tup (ns.map D.int)) = _
      unfold D.py
      rw [pys_ints]
    refine ⟨.tuple (ns.map PyData.int) :: bs, ?_⟩
    rw [List.map_cons]
    unfold D.pys
    rw [h, e]
theorem alikeAll_ints : ∀ ms ns : List Int, PySem.W.alikeAll (ms.map PyData.int) (ns.map PyData.int) = true
  | [], [] => by simp [PySem.W.alikeAll]
  | [], _ :: _ => by simp [PySem.W.alikeAll]
  | _ :: _, [] => by simp [PySem.W.alikeAll]
  | m :: ms, n :: ns => by
    simp only [List.map_cons, PySem.W.alikeAll, PySem.W.alike, alikeAll_ints ms ns, Bool.and_self]
theorem depthAll_ints : ∀ ns : List Int, PyData.depthAll (ns.map PyData.int) ≤ 1
  | [] => by simp [PyData.depthAll]
  | n :: ns => by
    have := depthAll_ints ns
    simp only [List.map_cons, PyData.depthAll, PyData.depth]
    omega
theorem srt_tups (xs : List (List Int)) (h : ∀ ns ∈ xs, ns ≠ []) : SrtOk (xs.map (eT D.int)) := by
  refine ⟨pys_tups xs, ?_, ?_, fun d hd => ?_⟩
  · rw [en_tups]
    exact PySem.W.AllAlike.of fun _ _ => by simp only [PySem.W.alike, alikeAll_ints]
  · rw [en_tups]
    refine .inl fun d hd => ?_
    obtain ⟨ns, hn, rfl⟩ := List.mem_map.mp hd
    cases ns with
    | nil => exact absurd rfl (h _ hn)
    | cons n ns => exact ⟨_, _, rfl⟩
  · have : d.en ∈ (xs.map (eT D.int)).map D.en := List.mem_map.mpr ⟨d, hd, rfl⟩
    rw [en_tups] at this
    obtain ⟨ns, _, e⟩ := List.mem_map.mp this
    rw [← e]
    have := depthAll_ints ns
    simp only [PyData.depth]
    omega
theorem sort_tups (xs : List (List Int)) : (xs.map (eT D.int)).mergeSort leD = (xs.mergeSort leT).map (eT D.int) :=
  (List.map_mergeSort (r := leT) (s := leD) (f := eT D.int) (l := xs) (fun a _ b _ => rfl)).symm
def sortTR (xs : List (List Int)) : Res (List (List Int)) := if (xs.all fun ns => !ns.isEmpty) = true then .ok (xs.mergeSort leT) else .er
theorem op_sortD {xs : List (List Int)} : Rf (if srtOk (xs.map (eT D.int)) = true then Res.ok (D.lst ((xs.map (eT D.int)).mergeSort leD)) else .er) (sortTR xs) (eL (eT D.int)) := by
  unfold sortTR
  by_cases h : (xs.all fun ns => !ns.isEmpty) = true
  · rw [if_pos h]
    have h : ∀ ns ∈ xs, ns ≠ [] := fun ns hn e => by
      have := List.all_eq_true.mp h ns hn
      rw [e] at this
      cases this
    rw [if_pos (show srtOk _ = true from stuck_iff.mpr (srt_tups xs h)), sort_tups]
    exact rfl
  · rw [if_neg h]
    exact trivial
theorem op_sortLT {xs : List (List Int)} : Rf (dSorted (eL (eT D.int) xs)) (sortTR xs) (eL (eT D.int)) := op_sortD
theorem op_sortTT {xs : List (List Int)} : Rf (dSorted (eT (eT D.int) xs)) (sortTR xs) (eL (eT D.int)) := op_sortD
def lenSetTR (xs : List (List Int)) : Res Int := if xs.length < 64 then .ok ((dedupG xs).length : Int) else .er
theorem op_lenSetT {xs : List (List Int)} : Rf (dLenSetT (eT (eT D.int) xs)) (lenSetTR xs) D.int := by
  show Rf (lenSetTOf (xs.map fun ns => D.tup (ns.map D.int))) _ _
  unfold lenSetTOf lenSetTR
  rw [rowsD_map]
  dsimp only
  split
  · exact rfl
  · exact trivial
end Da
namespace Kx
open PySem PySem.Spec L2 Da
def F_law_digits : FS := (fSeq (fSet 2 (fOn gLstD fA0))
    (fSeq (fSet 3 (fOn (on1 dInt) (fA (fV 0) fA0)))
    (fSeq (fIfS (fB (f2 dGe (fV 3) (f2 dPow (fC (.int 10)) (fC (.int 18))))) (fSeq (fSet 3 (f2 dSub (fV 3) (f2 dPow (fC (.int 10)) (fC (.int 18)))))
    (fSeq (fFor (fL (fV 1)) (gN 6) (fFgt [6] (fSeq (fApp 2 (f2 dMod (fOn (on1 dInt) (fA (fV 3) fA0)) (fV 6)))
    (fSet 3 (f2 dDiv (fOn (on1 dInt) (fA (fV 3) fA0)) (fV 6))))))
    (fRet (fV 2)))) fNext)
    (fSeq (fSet 4 (f2 dMod (fOn (on1 dInt) (fA (fV 3) fA0)) (fC (.int 2147483629))))
    (fSeq (fFor (fR1 (fA (fOn (on1 dLen) (fA (fV 1) fA0)) fA0)) (gN 5) (fFgt [5, 7] (fSeq (fSet 4 (f2 dMod (fOn (on1 dInt) (fA (f2 dAdd (f2 dAdd (f2 dMul (fV 4) (fC (.int 48271))) (f2 dMul (fC (.int 974711)) (fV 5))) (fC (.int 12345))) fA0)) (fC (.int 2147483647))))
    (fSeq (fSet 7 (f2 dMod (fOn (on1 dInt) (fA (f2 dMul (fV 4) (f2 dAdd (f2 dDiv (fV 4) (fC (.int 65537))) (fC (.int 3)))) fA0)) (fC (.int 2147483629))))
    (fApp 2 (f2 dMod (f2 dDiv (fV 7) (fC (.int 19))) (f2 dIx (fV 1) (fV 5))))))))
    (fRet (fV 2)))))))
def m_law_digits : List D → Res D := runF 8 .ow F_law_digits
def F_law_gcd : FS := (fSeq (fSet 2 (fOn (on1 dAbs) (fA (fOn (on1 dInt) (fA (fV 0) fA0)) fA0)))
    (fSeq (fSet 3 (fOn (on1 dAbs) (fA (fOn (on1 dInt) (fA (fV 1) fA0)) fA0)))
    (fSeq (fFor (fR1 (fA (fC (.int 1000000)) fA0)) (gN 4) (fFgt [4, 5] (fSeq (fIfS (fB (f2 dEq (fV 3) (fC (.int 0)))) fBrk fNext)
    (fSeq (fSet 5 (f2 dMod (fOn (on1 dInt) (fA (fV 2) fA0)) (fV 3)))
    (fSeq (fSet 2 (fV 3))
    (fSet 3 (fV 5)))))))
    (fRet (fV 2)))))
def m_law_gcd : List D → Res D := runF 6 .sh F_law_gcd
def F_law_fraction (rec : List D → Res D) : FS := (fSeq (fIfS (fB (f2 dLt (fV 1) (fC (.int 0)))) (fRet (fOn (chk 2 rec) (fA (f1 dNeg (fV 0)) (fA (f1 dNeg (fV 1)) fA0)))) fNext)
    (fSeq (fSet 2 (fOn (chk 2 m_law_gcd) (fA (fV 0) (fA (fV 1) fA0))))
    (fRet (fOn gTupD (fA (f2 dDiv (fV 0) (fV 2)) (fA (f2 dDiv (fV 1) (fV 2)) fA0))))))
def r_law_fraction : Nat → List D → Res D
  | 0 => fun _ => .er
  | n + 1 => runF 3 .sh (F_law_fraction (r_law_fraction n))
def m_law_fraction : List D → Res D := r_law_fraction 6
def F_law_added : FS := (fRet (fOn (chk 2 m_law_fraction) (fA (f2 dAdd (f2 dMul (f2 dIx (fV 0) (fC (.int 0))) (f2 dIx (fV 1) (fC (.int 1)))) (f2 dMul (f2 dIx (fV 1) (fC (.int 0))) (f2 dIx (fV 0) (fC (.int 1))))) (fA (f2 dMul (f2 dIx (fV 0) (fC (.int 1))) (f2 dIx (fV 1) (fC (.int 1)))) fA0))))
def m_law_added : List D → Res D := runF 2 .sh F_law_added
def F_law_cell : FS := (fSeq (fIfS (fB (f2 dLt (fV 1) (fOn (on1 dLen) (fA (fV 0) fA0)))) (fRet (f2 dIx (fV 0) (fV 1))) fNext)
    (fSeq (fSet 2 (fC (.int 17)))
    (fSeq (fFor (fL (fV 0)) (gN 3) (fFgt [3] (fSet 2 (f2 dMod (fOn (on1 dInt) (fA (f2 dAdd (f2 dMul (fV 2) (fC (.int 31))) (f2 dMod (fOn (on1 dInt) (fA (fV 3) fA0)) (fC (.int 1000003)))) fA0)) (fC (.int 1000003))))))
    (fRet (f2 dMod (fOn (on1 dInt) (fA (f2 dMul (f2 dMul (f2 dAdd (fV 2) (fC (.int 7))) (f2 dAdd (fV 1) (fC (.int 3)))) (fC (.int 69621))) fA0)) (fC (.int 2147483647)))))))
def m_law_cell : List D → Res D := runF 4 .sh F_law_cell
def F_law_whole : FS := (fRet (fBv (fAnd (fB (f1 (dIsi "int") (fV 0))) (fB (fBv (fNot (fB (f1 (dIsi "bool") (fV 0)))))))))
def m_law_whole : List D → Res D := runF 1 .sh F_law_whole
def F_law_same (rec : List D → Res D) : FS := (fSeq (fIfS (fOr (fTr (f1 (dIsi "tuple") (fV 1))) (fTr (f1 (dIsi "list") (fV 1)))) (fSeq (fIfS (fOr (fNot (fTr (f1 (dIsi "tuple") (fV 0)))) (fB (f2 dNe (fOn (on1 dLen) (fA (fV 0) fA0)) (fOn (on1 dLen) (fA (fV 1) fA0))))) (fRet (fC (.bl false))) fNext)
    (fSeq (fFor (fR1 (fA (fOn (on1 dLen) (fA (fV 1) fA0)) fA0)) (gN 2) (fFgt [2] (fIfS (fNot (fTr (fOn (chk 2 rec) (fA (f2 dIx (fV 0) (fV 2)) (fA (f2 dIx (fV 1) (fV 2)) fA0))))) (fRet (fC (.bl false))) fNext)))
    (fRet (fC (.bl true))))) fNext)
    (fSeq (fIfS (fB (f1 dIsN (fV 1))) (fRet (f1 dIsN (fV 0))) fNext)
    (fSeq (fIfS (fB (f1 (dIsB true) (fV 1))) (fRet (f1 (dIsB true) (fV 0))) fNext)
    (fSeq (fIfS (fB (f1 (dIsB false) (fV 1))) (fRet (f1 (dIsB false) (fV 0))) fNext)
    (fSeq (fIfS (fTr (f1 (dIsi "str") (fV 1))) (fRet (fBv (fAnd (fB (f1 (dIsi "str") (fV 0))) (fB (f2 dEq (fV 0) (fV 1)))))) fNext)
    (fRet (fBv (fAnd (fB (fOn (chk 1 m_law_whole) (fA (fV 0) fA0))) (fB (f2 dEq (fV 0) (fV 1)))))))))))
def r_law_same : Nat → List D → Res D
  | 0 => fun _ => .er
  | n + 1 => runF 3 .sh (F_law_same (r_law_same n))
def m_law_same : List D → Res D := r_law_same 6
def F_ratio : FS := (fSeq (fIfS (fB (f2 dEq (fV 1) (fC (.int 0)))) (fRaise "ZeroBottom" [] fA0) fNext)
    (fSeq (fSet 2 (fOn (on2 dGcd) (fA (fV 0) (fA (fV 1) fA0))))
    (fSeq (fFgt [] (fIfS (fB (f2 dLt (fV 1) (fC (.int 0)))) (fSet 2 (f1 dNeg (fV 2))) fNext))
    (fRet (fOn gTupD (fA (f2 dDiv (fV 0) (fV 2)) (fA (f2 dDiv (fV 1) (fV 2)) fA0)))))))
def m_ratio : List D → Res D := runF 3 .sh F_ratio
def F_added : FS := (fRet (fOn (chk 2 m_ratio) (fA (f2 dAdd (f2 dMul (f2 dIx (fV 0) (fC (.int 0))) (f2 dIx (fV 1) (fC (.int 1)))) (f2 dMul (f2 dIx (fV 1) (fC (.int 0))) (f2 dIx (fV 0) (fC (.int 1))))) (fA (f2 dMul (f2 dIx (fV 0) (fC (.int 1))) (f2 dIx (fV 1) (fC (.int 1)))) fA0))))
def m_added : List D → Res D := runF 2 .sh F_added
def F_fraction_sum : FS := (fSeq (fSet 1 (fOn gTupD (fA (fC (.int 0)) (fA (fC (.int 1)) fA0))))
    (fSeq (fFor (fL (fV 0)) (gN 2) (fFgt [2] (fSet 1 (fOn (chk 2 m_added) (fA (fV 1) (fA (fV 2) fA0))))))
    (fRet (fV 1))))
def m_fraction_sum : List D → Res D := runF 3 .sh F_fraction_sum
def N_law_cell_fi_i (a0 : (List Int)) (a1 : Int) : Res Int :=
  (if (decide (a1 < (a0.length : Int))) = true then (ixR a0 a1) else
  ((forR (σ := Int) (fun x1 x2 => (((((mulR x1 31).bind fun x3 => (Res.ok (x3 + (x2 % 1000003)))).bind fun x4 => (Res.ok x4)).bind fun x5 => (Res.ok (x5 % 1000003))).bind fun x6 =>
  Res.ok x6)) a0 17).bind fun x7 =>
  ((((mulR (x7 + 7) (a1 + 3)).bind fun x8 => (mulR x8 69621)).bind fun x9 => (Res.ok x9)).bind fun x10 => (Res.ok (x10 % 2147483647)))))
theorem n_law_cell_fi_i (a0 : (List Int)) (a1 : Int) : Rf (m_law_cell [(eF D.int) a0, D.int a1]) (N_law_cell_fi_i a0 a1) D.int :=
  n_runF ((t_if (evB (ev2 rfl (evOn (evA rfl rfl) op_lenF) rfl)) (t_retF (q_f2 (b_p rfl (b_p rfl op_ixF))))
  (t_nextS (t_seqp [some ((eF D.int) a0), some (D.int a1), some (D.int 17), none] (set_p rfl rfl) (t_seq fin_F (fun x7 : Int => [some ((eF D.int) a0), some (D.int a1), some (D.int x7), none]) (s_forp (ex := D.int) (s0 := 17) (it_F (e := D.int) (xs := a0) rfl) (fun x1 : Int => [some ((eF D.int) a0), some (D.int a1), some (D.int x1), none]) (fun (x1 : Int) (x2 : Int) => [some ((eF D.int) a0), some (D.int a1), some (D.int x1), some (D.int x2)]) rfl (fun _ _ => rfl) fun x1 x2 =>
  (t_seq fin_L (fun x6 : Int => [some ((eF D.int) a0), some (D.int a1), some (D.int x6), some (D.int x2)]) (s_set (e := D.int) _ (q_f2 (b_i (q_on (a_i (q_f2 (b_i (q_f2 (b_p rfl (b_p rfl op_mul))) fun x3 => (b_p (ev2 rfl rfl (op_modp (by decide))) (rf_ok rfl)))) fun x4 => (a_0 (rf_ok rfl)))) fun x5 => (b_p rfl (rf_ok (op_modp (by decide)))))) fun _ => rfl) fun x6 =>
  (t_next rfl))) fun x7 =>
  (t_end (t_retF (q_f2 (b_i (q_on (a_i (q_f2 (b_i (q_f2 (b_p rfl (b_p rfl op_mul))) fun x8 => (b_p rfl op_mul))) fun x9 => (a_0 (rf_ok rfl)))) fun x10 => (b_p rfl (rf_ok (op_modp (by decide)))))))))))))
def N_law_digits_i_li (a0 : Int) (a1 : (List Int)) : Res (List Int) :=
  (((powR 10 18).bind fun x1 => (Res.ok (decide (x1 ≤ a0)))).bind fun x26 => if x26 = true then (((powR 10 18).bind fun x2 => (Res.ok (a0 - x2))).bind fun x3 =>
  ((forR (σ := ((List Int) × Int)) (fun x4 x5 => (((modR x4.2 x5).bind fun x6 => appR x4.1 x6).bind fun x7 =>
  ((divR x4.2 x5).bind fun x8 =>
  Res.ok (x7, x8)))) a1 ([], x3)).bind fun x9 =>
  (Res.ok x9.1))) else
  (((rngR (a1.length : Int)).bind fun x24 => (forR (σ := ((List Int) × Int)) (fun x10 x11 => ((((((mulR x10.2 48271).bind fun x12 => ((mulR 974711 x11).bind fun x13 => (Res.ok (x12 + x13)))).bind fun x14 => (Res.ok (x14 + 12345))).bind fun x15 => (Res.ok x15)).bind fun x16 => (Res.ok (x16 % 2147483647))).bind fun x17 =>
  ((((mulR x17 ((x17 / 65537) + 3)).bind fun x18 => (Res.ok x18)).bind fun x19 => (Res.ok (x19 % 2147483629))).bind fun x20 =>
  ((((ixR a1 x11).bind fun x21 => (modR (x20 / 19) x21)).bind fun x22 => appR x10.1 x22).bind fun x23 =>
  Res.ok (x23, x17))))) x24 ([], (a0 % 2147483629)))).bind fun x25 =>
  (Res.ok x25.1)))
theorem n_law_digits_i_li (a0 : Int) (a1 : (List Int)) : Rf (m_law_digits [D.int a0, (eL D.int) a1]) (N_law_digits_i_li a0 a1) (eL D.int) :=
  n_runF ((t_seqp [some (D.int a0), some ((eL D.int) a1), some ((eL D.int) []), none, none, none, none, none] (set_p rfl rfl) (t_seqp [some (D.int a0), some ((eL D.int) a1), some ((eL D.int) []), some (D.int a0), none, none, none, none] (set_p rfl rfl) (t_ifI fin_F (q_B (b_iB (q_f2 (b_p rfl (b_i (q_f2 (b_p rfl (b_p rfl op_pow))) fun x1 => (rf_ok rfl)))))) (t_assoc (t_seq fin_F (fun x3 : Int => [some (D.int a0), some ((eL D.int) a1), some ((eL D.int) []), some (D.int x3), none, none, none, none]) (s_set (e := D.int) _ (q_f2 (b_p rfl (b_i (q_f2 (b_p rfl (b_p rfl op_pow))) fun x2 => (rf_ok rfl)))) fun _ => rfl) fun x3 =>
  (t_assoc (t_seq fin_F (fun x9 : ((List Int) × Int) => [some (D.int a0), some ((eL D.int) a1), some ((eL D.int) x9.1), some (D.int x9.2), none, none, none, none]) (s_forp (ex := D.int) (s0 := ([], x3)) (it_L (e := D.int) (xs := a1) rfl) (fun x4 : ((List Int) × Int) => [some (D.int a0), some ((eL D.int) a1), some ((eL D.int) x4.1), some (D.int x4.2), none, none, none, none]) (fun (x4 : ((List Int) × Int)) (x5 : Int) => [some (D.int a0), some ((eL D.int) a1), some ((eL D.int) x4.1), some (D.int x4.2), none, none, some (D.int x5), none]) rfl (fun _ _ => rfl) fun x4 x5 =>
  (t_assoc (t_seq fin_L (fun x7 : (List Int) => [some (D.int a0), some ((eL D.int) a1), some ((eL D.int) x7), some (D.int x4.2), none, none, some (D.int x5), none]) (s_appI (e := D.int) (xs := x4.1) (fun ys : (List Int) => [some (D.int a0), some ((eL D.int) a1), some ((eL D.int) ys), some (D.int x4.2), none, none, some (D.int x5), none]) rfl (q_f2 (b_p rfl (b_p rfl op_mod))) fun _ => rfl) fun x7 =>
  (t_seq fin_L (fun x8 : Int => [some (D.int a0), some ((eL D.int) a1), some ((eL D.int) x7), some (D.int x8), none, none, some (D.int x5), none]) (s_set (e := D.int) _ (q_f2 (b_p rfl (b_p rfl op_div))) fun _ => rfl) fun x8 =>
  (t_next rfl))))) fun x9 =>
  (t_retF (rf_ok (e := (eL D.int)) rfl))))))
  (t_nextS (t_seqp [some (D.int a0), some ((eL D.int) a1), some ((eL D.int) []), some (D.int a0), some (D.int (a0 % 2147483629)), none, none, none] (set_p (ev2 rfl rfl (op_modp (by decide))) rfl) (t_seq fin_F (fun x25 : ((List Int) × Int) => [some (D.int a0), some ((eL D.int) a1), some ((eL D.int) x25.1), some (D.int a0), some (D.int x25.2), none, none, none]) (s_for (ex := D.int) (s0 := ([], (a0 % 2147483629))) (q_R1 (a_p (evOn (evA rfl rfl) op_lenL) (a_0 k_R1))) (fun x10 : ((List Int) × Int) => [some (D.int a0), some ((eL D.int) a1), some ((eL D.int) x10.1), some (D.int a0), some (D.int x10.2), none, none, none]) (fun (x10 : ((List Int) × Int)) (x11 : Int) => [some (D.int a0), some ((eL D.int) a1), some ((eL D.int) x10.1), some (D.int a0), some (D.int x10.2), some (D.int x11), none, none]) rfl (fun _ _ => rfl) fun x10 x11 =>
  (t_assoc (t_seq fin_L (fun x17 : Int => [some (D.int a0), some ((eL D.int) a1), some ((eL D.int) x10.1), some (D.int a0), some (D.int x17), some (D.int x11), none, none]) (s_set (e := D.int) _ (q_f2 (b_i (q_on (a_i (q_f2 (b_i (q_f2 (b_i (q_f2 (b_p rfl (b_p rfl op_mul))) fun x12 => (b_i (q_f2 (b_p rfl (b_p rfl op_mul))) fun x13 => (rf_ok rfl)))) fun x14 => (b_p rfl (rf_ok rfl)))) fun x15 => (a_0 (rf_ok rfl)))) fun x16 => (b_p rfl (rf_ok (op_modp (by decide)))))) fun _ => rfl) fun x17 =>
  (t_assoc (t_seq fin_L (fun x20 : Int => [some (D.int a0), some ((eL D.int) a1), some ((eL D.int) x10.1), some (D.int a0), some (D.int x17), some (D.int x11), none, some (D.int x20)]) (s_set (e := D.int) _ (q_f2 (b_i (q_on (a_i (q_f2 (b_p rfl (b_p (ev2 (ev2 rfl rfl (op_divp (by decide) (by decide))) rfl rfl) op_mul))) fun x18 => (a_0 (rf_ok rfl)))) fun x19 => (b_p rfl (rf_ok (op_modp (by decide)))))) fun _ => rfl) fun x20 =>
  (t_seq fin_L (fun x23 : (List Int) => [some (D.int a0), some ((eL D.int) a1), some ((eL D.int) x23), some (D.int a0), some (D.int x17), some (D.int x11), none, some (D.int x20)]) (s_appI (e := D.int) (xs := x10.1) (fun ys : (List Int) => [some (D.int a0), some ((eL D.int) a1), some ((eL D.int) ys), some (D.int a0), some (D.int x17), some (D.int x11), none, some (D.int x20)]) rfl (q_f2 (b_p (ev2 rfl rfl (op_divp (by decide) (by decide))) (b_i (q_f2 (b_p rfl (b_p rfl op_ixL))) fun x21 => op_mod))) fun _ => rfl) fun x23 =>
  (t_next rfl))))))) fun x25 =>
  (t_end (t_retF (rf_ok (e := (eL D.int)) rfl))))))))))
def N_law_gcd_i_i (a0 : Int) (a1 : Int) : Res Int :=
  (((rngR 1000000).bind fun x4 => ((forC (σ := (Int × Int)) (β := Unit) (fun x1 x2 => (if (decide (x1.2 = 0)) = true then Res.ok (.out (x1.1, x1.2)) else
  ((modR x1.1 x1.2).bind fun x3 =>
  Res.ok (.go (x1.2, x3))))) x4 ((if a0 < 0 then -a0 else a0), (if a1 < 0 then -a1 else a1))).bind (ctlS (β := Unit)))).bind fun x5 =>
  (Res.ok x5.1))
theorem n_law_gcd_i_i (a0 : Int) (a1 : Int) : Rf (m_law_gcd [D.int a0, D.int a1]) (N_law_gcd_i_i a0 a1) D.int :=
  n_runF ((t_seqp [some (D.int a0), some (D.int a1), some (D.int (if a0 < 0 then -a0 else a0)), none, none, none] (set_p rfl rfl) (t_seqp [some (D.int a0), some (D.int a1), some (D.int (if a0 < 0 then -a0 else a0)), some (D.int (if a1 < 0 then -a1 else a1)), none, none] (set_p rfl rfl) (t_seq fin_F (fun x5 : (Int × Int) => [some (D.int a0), some (D.int a1), some (D.int x5.1), some (D.int x5.2), none, none]) (s_forB (ex := D.int) (s0 := ((if a0 < 0 then -a0 else a0), (if a1 < 0 then -a1 else a1))) (q_R1 (a_p rfl (a_0 k_R1))) (fun x1 : (Int × Int) => [some (D.int a0), some (D.int a1), some (D.int x1.1), some (D.int x1.2), none, none]) (fun (x1 : (Int × Int)) (x2 : Int) => [some (D.int a0), some (D.int a1), some (D.int x1.1), some (D.int x1.2), some (D.int x2), none]) rfl (fun _ _ => rfl) fun x1 x2 =>
  (t_assoc (t_if (evB (ev2 rfl rfl (op_eq (e := D.int) (x := x1.2) (x' := 0)))) (t_brk rfl)
  (t_nextS (t_assoc (t_seq fin_L (fun x3 : Int => [some (D.int a0), some (D.int a1), some (D.int x1.1), some (D.int x1.2), some (D.int x2), some (D.int x3)]) (s_set (e := D.int) _ (q_f2 (b_p rfl (b_p rfl op_mod))) fun _ => rfl) fun x3 =>
  (t_assoc (t_seqp [some (D.int a0), some (D.int a1), some (D.int x1.2), some (D.int x1.2), some (D.int x2), some (D.int x3)] (set_p rfl rfl) (t_seqp [some (D.int a0), some (D.int a1), some (D.int x1.2), some (D.int x3), some (D.int x2), some (D.int x3)] (set_p rfl rfl) (t_next rfl)))))))))) fun x5 =>
  (t_end (t_retF (rf_ok (e := D.int) rfl)))))))
def Nr_law_fraction_i_i : Nat → Int → Int → Res (Int × Int)
  | 0 => fun _ _ => .er
  | n + 1 => fun a0 a1 =>
  (if (decide (a1 < 0)) = true then (Nr_law_fraction_i_i n (-a0) (-a1)) else
  ((N_law_gcd_i_i a0 a1).bind fun x1 =>
  ((divR a0 x1).bind fun x2 => ((divR a1 x1).bind fun x3 => (Res.ok (x2, x3))))))
theorem nr_law_fraction_i_i : ∀ (n : Nat) (a0 : Int) (a1 : Int), Rf (r_law_fraction n [D.int a0, D.int a1]) (Nr_law_fraction_i_i n a0 a1) (eP2 D.int D.int)
  | 0, _, _ => trivial
  | n + 1, a0, a1 => n_runF ((t_if rfl (t_retF (q_on (a_p rfl (a_p rfl (a_0 (rf_chk (nr_law_fraction_i_i n (-a0) (-a1)) rfl))))))
  (t_nextS (t_seq fin_F (fun x1 : Int => [some (D.int a0), some (D.int a1), some (D.int x1)]) (s_set (e := D.int) _ (q_on (a_p rfl (a_p rfl (a_0 (rf_chk (n_law_gcd_i_i a0 a1) rfl))))) fun _ => rfl) fun x1 =>
  (t_end (t_retF (q_on (a_i (q_f2 (b_p rfl (b_p rfl op_div))) fun x2 => (a_i (q_f2 (b_p rfl (b_p rfl op_div))) fun x3 => (a_0 (rf_ok rfl)))))))))))
def N_law_fraction_i_i (a0 : Int) (a1 : Int) : Res (Int × Int) := Nr_law_fraction_i_i 6 a0 a1
theorem n_law_fraction_i_i (a0 : Int) (a1 : Int) : Rf (m_law_fraction [D.int a0, D.int a1]) (N_law_fraction_i_i a0 a1) (eP2 D.int D.int) := nr_law_fraction_i_i 6 a0 a1
def N_law_added_piiq_piiq (a0 : (Int × Int)) (a1 : (Int × Int)) : Res (Int × Int) :=
  (((mulR a0.1 a1.2).bind fun x1 => ((mulR a1.1 a0.2).bind fun x2 => (Res.ok (x1 + x2)))).bind fun x3 => ((mulR a0.2 a1.2).bind fun x4 => (N_law_fraction_i_i x3 x4)))
theorem n_law_added_piiq_piiq (a0 : (Int × Int)) (a1 : (Int × Int)) : Rf (m_law_added [(eP2 D.int D.int) a0, (eP2 D.int D.int) a1]) (N_law_added_piiq_piiq a0 a1) (eP2 D.int D.int) :=
  n_runF ((t_end (t_retF (q_on (a_i (q_f2 (b_i (q_f2 (b_p rfl (b_p rfl op_mul))) fun x1 => (b_i (q_f2 (b_p rfl (b_p rfl op_mul))) fun x2 => (rf_ok rfl)))) fun x3 => (a_i (q_f2 (b_p rfl (b_p rfl op_mul))) fun x4 => (a_0 (rf_chk (n_law_fraction_i_i x3 x4) rfl))))))))
def N_law_whole_i (a0 : Int) : Res Bool :=
  (Res.ok true)
theorem n_law_whole_i (a0 : Int) : Rf (m_law_whole [D.int a0]) (N_law_whole_i a0) D.bl :=
  n_runF ((t_end (t_retF (rf_ok (e := D.bl) (evBv (evAndT (evB (ev1 rfl (isi_of isTy_int_int))) (evB (evBv (evNot (evB (ev1 rfl (isi_of isTy_bool_int))))))))))))
def N_law_same_i_i (a0 : Int) (a1 : Int) : Res Bool :=
  (Res.ok (decide (a0 = a1)))
theorem nr_law_same_i_i (n : Nat) (a0 : Int) (a1 : Int) : Rf (r_law_same (n + 1) [D.int a0, D.int a1]) (N_law_same_i_i a0 a1) D.bl :=
  n_runF ((t_ifF (evOrF (evTr (ev1 rfl (isi_of isTy_tuple_int)) rfl) (evTr (ev1 rfl (isi_of isTy_list_int)) rfl)) (t_nextS (t_ifF rfl (t_nextS (t_ifF rfl (t_nextS (t_ifF rfl (t_nextS (t_ifF (evTr (ev1 rfl (isi_of isTy_str_int)) rfl) (t_nextS (t_end (t_retF (rf_ok (e := D.bl) (evBv (evAndT (evB (evOn (evA rfl rfl) (ev_chk (n_law_whole_i a0) rfl))) (evB (ev2 rfl rfl (op_eq (e := D.int) (x := a0) (x' := a1))))))))))))))))))))
def N_law_same_piiq_piiq (a0 : (Int × Int)) (a1 : (Int × Int)) : Res Bool :=
  (if (!decide (2 = 2)) = true then (Res.ok false) else
  ((rngR 2).bind fun x8 => ((forC (σ := Unit) (β := Bool) (fun x1 x2 => ((((ixR [a0.1, a0.2] x2).bind fun x3 => ((ixR [a1.1, a1.2] x2).bind fun x4 => (N_law_same_i_i x3 x4))).bind fun x5 => Res.ok (!x5)).bind fun x6 => if x6 = true then Res.ok (.ret false) else
  Res.ok (.go ()))) x8 ()).bind (ctlK (fun x7 => (Res.ok true)) (fun v => v)))))
theorem nr_law_same_piiq_piiq (n : Nat) (a0 : (Int × Int)) (a1 : (Int × Int)) : Rf (r_law_same (n + 2) [(eP2 D.int D.int) a0, (eP2 D.int D.int) a1]) (N_law_same_piiq_piiq a0 a1) D.bl :=
  n_runF ((t_ifT (evOrT (evTr (ev1 rfl (isi_of isTy_tuple_tup)) rfl)) (t_assoc (t_if (evOrF (evNot (evTr (ev1 rfl (isi_of isTy_tuple_tup)) rfl)) (evB (ev2 rfl rfl (op_ne (e := D.int) (x := 2) (x' := 2))))) (t_retF (rf_ok (e := D.bl) rfl))
  (t_nextS (t_assoc (t_forC (ex := D.int) (e := D.bl) (s0 := ()) (rk := (fun v => v)) fin_F (q_R1 (a_p rfl (a_0 k_R1))) (fun x1 : Unit => [some ((eP2 D.int D.int) a0), some ((eP2 D.int D.int) a1), none]) (fun (x1 : Unit) (x2 : Int) => [some ((eP2 D.int D.int) a0), some ((eP2 D.int D.int) a1), some (D.int x2)]) rfl (fun _ _ => rfl) (fun x1 x2 =>
  (t_ifI fin_L (q_Not (b_i (q_Tr (b_iT (q_on (a_i (q_f2 (b_p rfl (b_p rfl (op_ixT (e := D.int) (xs := [a0.1, a0.2]))))) fun x3 => (a_i (q_f2 (b_p rfl (b_p rfl (op_ixT (e := D.int) (xs := [a1.1, a1.2]))))) fun x4 => (a_0 (rf_chk (nr_law_same_i_i (n + 0) x3 x4) rfl))))))) fun _ => rf_ok rfl)) (t_retp rfl rfl)
  (t_nextS (t_next rfl)))) (fun x7 =>
  (t_retF (rf_ok (e := D.bl) rfl))) fun _ => rfl)))))))
theorem n_law_same_piiq_piiq (a0 : (Int × Int)) (a1 : (Int × Int)) : Rf (m_law_same [(eP2 D.int D.int) a0, (eP2 D.int D.int) a1]) (N_law_same_piiq_piiq a0 a1) D.bl := nr_law_same_piiq_piiq 4 a0 a1
def N_ratio_i_i (a0 : Int) (a1 : Int) : Res (Int × Int) :=
  (if (decide (a1 = 0)) = true then (Res.ex "ZeroBottom" []) else
  ((Res.ok ((Nat.gcd a0.natAbs a1.natAbs : Nat) : Int)).bind fun x1 =>
  ((if (decide (a1 < 0)) = true then Res.ok (-x1) else
  Res.ok x1).bind fun x2 =>
  ((divR a0 x2).bind fun x3 => ((divR a1 x2).bind fun x4 => (Res.ok (x3, x4)))))))
theorem n_ratio_i_i (a0 : Int) (a1 : Int) : Rf (m_ratio [D.int a0, D.int a1]) (N_ratio_i_i a0 a1) (eP2 D.int D.int) :=
  n_runF ((t_if (evB (ev2 rfl rfl (op_eq (e := D.int) (x := a1) (x' := 0)))) (t_raise fin_F (a_0 (rf_ex rfl)))
  (t_nextS (t_seq fin_F (fun x1 : Int => [some (D.int a0), some (D.int a1), some (D.int x1)]) (s_setp (e := D.int) _ rfl rfl) fun x1 =>
  (t_seq fin_F (fun x2 : Int => [some (D.int a0), some (D.int a1), some (D.int x2)]) (s_if (o' := (fun s : Int => Fl.nx [some (D.int a0), some (D.int a1), some (D.int s)])) (t_if rfl (t_seqp [some (D.int a0), some (D.int a1), some (D.int (-x1))] (set_p rfl rfl) (t_next rfl))
  (t_nextS (t_next rfl)))) fun x2 =>
  (t_end (t_retF (q_on (a_i (q_f2 (b_p rfl (b_p rfl op_div))) fun x3 => (a_i (q_f2 (b_p rfl (b_p rfl op_div))) fun x4 => (a_0 (rf_ok rfl))))))))))))
def N_added_piiq_piiq (a0 : (Int × Int)) (a1 : (Int × Int)) : Res (Int × Int) :=
  (((mulR a0.1 a1.2).bind fun x1 => ((mulR a1.1 a0.2).bind fun x2 => (Res.ok (x1 + x2)))).bind fun x3 => ((mulR a0.2 a1.2).bind fun x4 => (N_ratio_i_i x3 x4)))
theorem n_added_piiq_piiq (a0 : (Int × Int)) (a1 : (Int × Int)) : Rf (m_added [(eP2 D.int D.int) a0, (eP2 D.int D.int) a1]) (N_added_piiq_piiq a0 a1) (eP2 D.int D.int) :=
  n_runF ((t_end (t_retF (q_on (a_i (q_f2 (b_i (q_f2 (b_p rfl (b_p rfl op_mul))) fun x1 => (b_i (q_f2 (b_p rfl (b_p rfl op_mul))) fun x2 => (rf_ok rfl)))) fun x3 => (a_i (q_f2 (b_p rfl (b_p rfl op_mul))) fun x4 => (a_0 (rf_chk (n_ratio_i_i x3 x4) rfl))))))))
def N_fraction_sum_lpiiq (a0 : (List (Int × Int))) : Res (Int × Int) :=
  ((forR (σ := (Int × Int)) (fun x1 x2 => ((N_added_piiq_piiq x1 x2).bind fun x3 =>
  Res.ok x3)) a0 (0, 1)).bind fun x4 =>
  (Res.ok x4))
theorem n_fraction_sum_lpiiq (a0 : (List (Int × Int))) : Rf (m_fraction_sum [(eL (eP2 D.int D.int)) a0]) (N_fraction_sum_lpiiq a0) (eP2 D.int D.int) :=
  n_runF ((t_seqp [some ((eL (eP2 D.int D.int)) a0), some ((eP2 D.int D.int) (0, 1)), none] (set_p rfl rfl) (t_seq fin_F (fun x4 : (Int × Int) => [some ((eL (eP2 D.int D.int)) a0), some ((eP2 D.int D.int) x4), none]) (s_forp (ex := (eP2 D.int D.int)) (s0 := (0, 1)) (it_L (e := (eP2 D.int D.int)) (xs := a0) rfl) (fun x1 : (Int × Int) => [some ((eL (eP2 D.int D.int)) a0), some ((eP2 D.int D.int) x1), none]) (fun (x1 : (Int × Int)) (x2 : (Int × Int)) => [some ((eL (eP2 D.int D.int)) a0), some ((eP2 D.int D.int) x1), some ((eP2 D.int D.int) x2)]) rfl (fun _ _ => rfl) fun x1 x2 =>
  (t_seq fin_L (fun x3 : (Int × Int) => [some ((eL (eP2 D.int D.int)) a0), some ((eP2 D.int D.int) x3), some ((eP2 D.int D.int) x2)]) (s_set (e := (eP2 D.int D.int)) _ (q_on (a_p rfl (a_p rfl (a_0 (rf_chk (n_added_piiq_piiq x1 x2) rfl))))) fun _ => rfl) fun x3 =>
  (t_next rfl))) fun x4 =>
  (t_end (t_retF (rf_ok (e := (eP2 D.int D.int)) rfl))))))
end Kx
namespace Kx
open PySem PySem.Spec L2 Da
def F_is_number : FS := (fRet (fBv (fAnd (fB (f1 (dIsi "int") (fV 0))) (fB (fBv (fNot (fB (f1 (dIsi "bool") (fV 0)))))))))
def m_is_number : List D → Res D := runF 1 .sh F_is_number
def F_frozen (rec : List D → Res D) : FS := (fSeq (fIfS (fTr (f1 (dIsi2 "list" "tuple") (fV 0))) (fRet (fOn (on1 dTuple) (fA (fLc [1] (fL (fV 0)) (gN 1) fYes (fOn (chk 1 rec) (fA (fV 1) fA0))) fA0))) fNext)
    (fRet (fV 0)))
def r_frozen : Nat → List D → Res D
  | 0 => fun _ => .er
  | n + 1 => runF 2 .sh (F_frozen (r_frozen n))
def m_frozen : List D → Res D := r_frozen 6
def N_frozen_i (a0 : Int) : Res Int :=
  (Res.ok a0)
theorem nr_frozen_i (n : Nat) (a0 : Int) : Rf (r_frozen (n + 1) [D.int a0]) (N_frozen_i a0) D.int :=
  n_runF ((t_ifF (evTr (ev1 rfl (isi2_b isTy_list_int isTy_tuple_int)) rfl) (t_nextS (t_end (t_retF (rf_ok (e := D.int) rfl))))))
def N_frozen_piiq (a0 : (Int × Int)) : Res (Int × Int) :=
  (((nx (N_frozen_i a0.1)).bind fun x1 => (nx (N_frozen_i a0.2)).bind fun x2 => Res.ok (x1, x2)).bind fun x3 => (Res.ok x3))
theorem nr_frozen_piiq (n : Nat) (a0 : (Int × Int)) : Rf (r_frozen (n + 2) [(eP2 D.int D.int) a0]) (N_frozen_piiq a0) (eP2 D.int D.int) :=
  n_runF ((t_ifT (evTr (ev1 rfl (isi2_b isTy_list_tup isTy_tuple_tup)) rfl) (t_retF (q_on (a_i (rf_lcN2 (it_row2 rfl) rfl rfl (q_on (a_p rfl (a_0 (rf_chk (nr_frozen_i (n + 0) a0.1) rfl)))) (q_on (a_p rfl (a_0 (rf_chk (nr_frozen_i (n + 0) a0.2) rfl))))) fun x3 => (a_0 (rf_ok rfl)))))))
def N_frozen_lpiiq (a0 : (List (Int × Int))) : Res (List (Int × Int)) :=
  ((lcR a0 (fun x1 => Res.ok true) (fun x1 => (N_frozen_piiq x1))).bind fun x2 => (Res.ok x2))
theorem nr_frozen_lpiiq (n : Nat) (a0 : (List (Int × Int))) : Rf (r_frozen (n + 3) [(eL (eP2 D.int D.int)) a0]) (N_frozen_lpiiq a0) (eT (eP2 D.int D.int)) :=
  n_runF ((t_ifT (evTr (ev1 rfl (isi2_a isTy_list_lst)) rfl) (t_retF (q_on (a_i (rf_lcp (it_L (e := (eP2 D.int D.int)) (xs := a0) rfl) (fun x1 : (Int × Int) => [some ((eL (eP2 D.int D.int)) a0), some ((eP2 D.int D.int) x1)]) (fun _ => rfl) (fun x1 => (rf_ok (v := true) rfl)) (fun x1 => (q_on (a_p rfl (a_0 (rf_chk (nr_frozen_piiq (n + 0) x1) rfl)))))) fun x2 => (a_0 (rf_ok rfl)))))))
theorem n_frozen_lpiiq (a0 : (List (Int × Int))) : Rf (m_frozen [(eL (eP2 D.int D.int)) a0]) (N_frozen_lpiiq a0) (eT (eP2 D.int D.int)) := nr_frozen_lpiiq 3 a0
end Kx
namespace Kx
open PySem PySem.Spec L2 Da
def F_law_near : FS := (fSeq (fSet 2 (fLc [4] (fR1 (fA (fV 0) fA0)) (gN 4) fYes (fOn gLstD fA0)))
    (fSeq (fFor (fL (fV 1)) (gN 3) (fFgt [3] (fSeq (fApp2 2 (f2 dIx (fV 3) (fC (.int 0))) (f2 dIx (fV 3) (fC (.int 1))))
    (fApp2 2 (f2 dIx (fV 3) (fC (.int 1))) (f2 dIx (fV 3) (fC (.int 0)))))))
    (fRet (fLc [5] (fL (fV 2)) (gN 5) fYes (fOn (on1 dSorted) (fA (fV 5) fA0))))))
def m_law_near : List D → Res D := runF 6 .ow F_law_near
def F_law_lanes : FS := (fSeq (fSet 1 (fOn gLstD fA0))
    (fSeq (fFor (fR1 (fA (fOn (on1 dLen) (fA (fV 0) fA0)) fA0)) (gN 2) (fFgt [2, 3] (fFor (fL (f2 dIx (fV 0) (fV 2))) (gN 3) (fFgt [3] (fApp 1 (fOn gTupD (fA (fV 2) (fA (fV 3) fA0))))))))
    (fRet (fV 1))))
def m_law_lanes : List D → Res D := runF 4 .ow F_law_lanes
def F_route_lanes : FS := (fRet (fOn (on1 dTuple) (fA (fLc [1] (fR1 (fA (f2 dSub (fOn (on1 dLen) (fA (fV 0) fA0)) (fC (.int 1))) fA0)) (gN 1) fYes (fOn gTupD (fA (f2 dIx (fV 0) (fV 1)) (fA (f2 dIx (fV 0) (f2 dAdd (fV 1) (fC (.int 1)))) fA0)))) fA0)))
def m_route_lanes : List D → Res D := runF 2 .sh F_route_lanes
def F_is_route : FS := (fSeq (fSet 4 (fOn (chk 1 m_frozen) (fA (fV 1) fA0)))
    (fSeq (fIfS (fOr (fNot (fTr (fV 4))) (fNot (fTr (fOn (on1 dAll) (fA (fLc [7] (fL (fV 4)) (gN 7) fYes (fBv (fAnd (fB (fOn (chk 1 m_is_number) (fA (fV 7) fA0))) (fB (fChain dLe dLt (fC (.int 0)) (fV 7) (f1 (dFld "Net" "size") (fV 0))))))) fA0))))) (fRet (fC (.bl false))) fNext)
    (fSeq (fIfS (fOr (fB (f2 dNe (f2 dIx (fV 4) (fC (.int 0))) (fV 2))) (fOr (fB (f2 dNe (f2 dIx (fV 4) (f1 dNeg (fC (.int 1)))) (fV 3))) (fB (f2 dNe (f1 dLenSet (fV 4)) (fOn (on1 dLen) (fA (fV 4) fA0)))))) (fRet (fC (.bl false))) fNext)
    (fRet (fOn (on1 dAll) (fA (fLc [5, 6] (fL (fOn (chk 1 m_route_lanes) (fA (fV 4) fA0))) (gT (gsC (gN 5) (gsC (gN 6) gs0))) fYes (f2 dIn (fV 6) (f2 dIx (f1 (dFld "Net" "near") (fV 0)) (fV 5)))) fA0))))))
def m_is_route : List D → Res D := runF 8 .sh F_is_route
def F_is_link : FS := (fSeq (fIfS (fOr (fB (f2 dNe (fOn (on1 dLen) (fA (fV 1) fA0)) (fC (.int 2)))) (fB (f2 dEq (f2 dIx (fV 1) (fC (.int 0))) (f2 dIx (fV 1) (fC (.int 1)))))) (fRet (fC (.bl false))) fNext)
    (fRet (fOn (on1 dAll) (fA (fLc [2] (fL (fV 1)) (gN 2) fYes (fBv (fAnd (fB (fOn (chk 1 m_is_number) (fA (fV 2) fA0))) (fB (fChain dLe dLt (fC (.int 0)) (fV 2) (fV 0)))))) fA0))))
def m_is_link : List D → Res D := runF 3 .sh F_is_link
def F_checked_links : FS := (fSeq (fFor (fEnum (fA (fV 1) fA0)) (gT (gsC (gN 2) (gsC (gN 3) gs0))) (fFgt [2, 3] (fIfS (fNot (fTr (fOn (chk 2 m_is_link) (fA (fV 0) (fA (fV 3) fA0))))) (fRaise "BadLink" ["index"] (fA (fV 2) fA0)) fNext)))
    (fRet (fOn (on1 dTuple) (fA (fSortSc [4, 5] (fL (fV 1)) (gT (gsC (gN 4) (gsC (gN 5) gs0))) fYes (fOn gTupD (fA (fOn (on2 dMin2) (fA (fV 4) (fA (fV 5) fA0))) (fA (fOn (on2 dMax2) (fA (fV 4) (fA (fV 5) fA0))) fA0)))) fA0))))
def m_checked_links : List D → Res D := runF 6 .sh F_checked_links
def F_near_nodes : FS := (fSeq (fSet 2 (fLc [5] (fR1 (fA (fV 0) fA0)) (gN 5) fYes (fOn gLstD fA0)))
    (fSeq (fFor (fL (fV 1)) (gT (gsC (gN 3) (gsC (gN 4) gs0))) (fFgt [3, 4] (fSeq (fApp2 2 (fV 3) (fV 4))
    (fApp2 2 (fV 4) (fV 3)))))
    (fRet (fOn (on1 dTuple) (fA (fLc [6] (fL (fV 2)) (gN 6) fYes (fOn (on1 dTuple) (fA (fOn (on1 dSorted) (fA (fV 6) fA0)) fA0))) fA0)))))
def m_near_nodes : List D → Res D := runF 7 .sh F_near_nodes
def F_lanes_of : FS := (fRet (fOn (on1 dTuple) (fA (fLc2 [1, 2] (fR1 (fA (fOn (on1 dLen) (fA (fV 0) fA0)) fA0)) (gN 1) fYes [2] (fL (f2 dIx (fV 0) (fV 1))) (gN 2) fYes (fOn gTupD (fA (fV 1) (fA (fV 2) fA0)))) fA0)))
def m_lanes_of : List D → Res D := runF 3 .sh F_lanes_of
def F_reached : FS := (fSeq (fSet 3 (fLc [5] (fR1 (fA (fV 0) fA0)) (gN 5) fYes (fC (.bl false))))
    (fSeq (fSetIx 3 (fC (.bl true)) (fV 2))
    (fSeq (fSet 4 (fOn gLstD (fA (fV 2) fA0)))
    (fSeq (fWhile (fNx (fTr (fV 4))) (fFgt [5, 6, 7] (fSeq (fSetX 5 (fPop0 4))
    (fFor (fL (fV 1)) (gT (gsC (gN 6) (gsC (gN 7) gs0))) (fFgt [6, 7] (fSeq (fFgt [] (fIfS (fAnd (fB (f2 dEq (fV 6) (fV 5))) (fNot (fTr (f2 dIx (fV 3) (fV 7))))) (fSeq (fSetIx 3 (fC (.bl true)) (fV 7))
    (fApp 4 (fV 7))) fNext))
    (fFgt [] (fIfS (fAnd (fB (f2 dEq (fV 7) (fV 5))) (fNot (fTr (f2 dIx (fV 3) (fV 6))))) (fSeq (fSetIx 3 (fC (.bl true)) (fV 6))
    (fApp 4 (fV 6))) fNext))))))))
    (fRet (fOn (on1 dTuple) (fA (fLc [5] (fR1 (fA (fV 0) fA0)) (gN 5) (fTr (f2 dIx (fV 3) (fV 5))) (fV 5)) fA0)))))))
def m_reached : List D → Res D := runF 8 .sh F_reached
def F_Net_init : FS := (fSeq (fIfS (fNot (fB (fChain dLe dLe (fC (.int 1)) (fV 1) (fC (.int 24))))) (fRaise "BadSize" ["size"] (fA (fV 1) fA0)) fNext)
    (fSeq (fFld "Net" "size" 0 (fV 1))
    (fSeq (fFld "Net" "links" 0 (fOn (chk 2 m_checked_links) (fA (fV 1) (fA (fOn (chk 1 m_frozen) (fA (fV 2) fA0)) fA0))))
    (fSeq (fFld "Net" "near" 0 (fOn (chk 2 m_near_nodes) (fA (fV 1) (fA (f1 (dFld "Net" "links") (fV 0)) fA0))))
    (fSeq (fFld "Net" "lane_row" 0 (fOn (chk 1 m_lanes_of) (fA (f1 (dFld "Net" "near") (fV 0)) fA0)))
    (fSeq (fSet 3 (fOn (chk 3 m_reached) (fA (fV 1) (fA (f1 (dFld "Net" "links") (fV 0)) (fA (fC (.int 0)) fA0)))))
    (fFor (fR1 (fA (fV 1) fA0)) (gN 4) (fFgt [4] (fIfS (fB (f2 dNotIn (fV 4) (fV 3))) (fRaise "NotConnected" ["node"] (fA (fV 4) fA0)) fNext)))))))))
def m_Net_init : List D → Res D := runI 5 "Net" F_Net_init
def N_law_near_i_lpiiq (a0 : Int) (a1 : (List (Int × Int))) : Res (List (List Int)) :=
  (((rngR a0).bind fun x2 => lcR x2 (fun x1 => Res.ok true) (fun x1 => (Res.ok []))).bind fun x3 =>
  ((forR (σ := (List (List Int))) (fun x4 x5 => ((app2R x4 x5.1 x5.2).bind fun x6 =>
  ((app2R x6 x5.2 x5.1).bind fun x7 =>
  Res.ok x7))) a1 x3).bind fun x8 =>
  (lcR x8 (fun x9 => Res.ok true) (fun x9 => (Res.ok (x9.mergeSort leI))))))
theorem n_law_near_i_lpiiq (a0 : Int) (a1 : (List (Int × Int))) : Rf (m_law_near [D.int a0, (eL (eP2 D.int D.int)) a1]) (N_law_near_i_lpiiq a0 a1) (eL (eL D.int)) :=
  n_runF ((t_seq fin_F (fun x3 : (List (List Int)) => [some (D.int a0), some ((eL (eP2 D.int D.int)) a1), some ((eL (eL D.int)) x3), none, none, none]) (s_set (e := (eL (eL D.int))) _ (rf_lc (q_R1 (a_p rfl (a_0 k_R1))) (fun x1 : Int => [some (D.int a0), some ((eL (eP2 D.int D.int)) a1), none, none, some (D.int x1), none]) (fun _ => rfl) (fun x1 => (rf_ok (v := true) rfl)) (fun x1 => (rf_ok (e := (eL D.int)) rfl))) fun _ => rfl) fun x3 =>
  (t_seq fin_F (fun x8 : (List (List Int)) => [some (D.int a0), some ((eL (eP2 D.int D.int)) a1), some ((eL (eL D.int)) x8), none, none, none]) (s_forp (ex := (eP2 D.int D.int)) (s0 := x3) (it_L (e := (eP2 D.int D.int)) (xs := a1) rfl) (fun x4 : (List (List Int)) => [some (D.int a0), some ((eL (eP2 D.int D.int)) a1), some ((eL (eL D.int)) x4), none, none, none]) (fun (x4 : (List (List Int))) (x5 : (Int × Int)) => [some (D.int a0), some ((eL (eP2 D.int D.int)) a1), some ((eL (eL D.int)) x4), some ((eP2 D.int D.int) x5), none, none]) rfl (fun _ _ => rfl) fun x4 x5 =>
  (t_assoc (t_seq fin_L (fun x6 : (List (List Int)) => [some (D.int a0), some ((eL (eP2 D.int D.int)) a1), some ((eL (eL D.int)) x6), some ((eP2 D.int D.int) x5), none, none]) (s_app2 (e := D.int) (xs := x4) (d := x5.2) (fun ys : (List (List Int)) => [some (D.int a0), some ((eL (eP2 D.int D.int)) a1), some ((eL (eL D.int)) ys), some ((eP2 D.int D.int) x5), none, none]) rfl rfl rfl fun _ => rfl) fun x6 =>
  (t_seq fin_L (fun x7 : (List (List Int)) => [some (D.int a0), some ((eL (eP2 D.int D.int)) a1), some ((eL (eL D.int)) x7), some ((eP2 D.int D.int) x5), none, none]) (s_app2 (e := D.int) (xs := x6) (d := x5.1) (fun ys : (List (List Int)) => [some (D.int a0), some ((eL (eP2 D.int D.int)) a1), some ((eL (eL D.int)) ys), some ((eP2 D.int D.int) x5), none, none]) rfl rfl rfl fun _ => rfl) fun x7 =>
  (t_next rfl))))) fun x8 =>
  (t_end (t_retF (rf_lcp (it_L (e := (eL D.int)) (xs := x8) rfl) (fun x9 : (List Int) => [some (D.int a0), some ((eL (eP2 D.int D.int)) a1), some ((eL (eL D.int)) x8), none, none, some ((eL D.int) x9)]) (fun _ => rfl) (fun x9 => (rf_ok (v := true) rfl)) (fun x9 => (rf_ok (e := (eL D.int)) (evOn (evA rfl rfl) op_sortL)))))))))
def N_law_lanes_lli (a0 : (List (List Int))) : Res (List (Int × Int)) :=
  (((rngR (a0.length : Int)).bind fun x8 => (forR (σ := (List (Int × Int))) (fun x1 x2 => (((ixR a0 x2).bind fun x6 => (forR (σ := (List (Int × Int))) (fun x3 x4 => ((appR x3 (x2, x4)).bind fun x5 =>
  Res.ok x5)) x6 x1)).bind fun x7 =>
  Res.ok x7)) x8 [])).bind fun x9 =>
  (Res.ok x9))
theorem n_law_lanes_lli (a0 : (List (List Int))) : Rf (m_law_lanes [(eL (eL D.int)) a0]) (N_law_lanes_lli a0) (eL (eP2 D.int D.int)) :=
  n_runF ((t_seqp [some ((eL (eL D.int)) a0), some ((eL (eP2 D.int D.int)) []), none, none] (set_p rfl rfl) (t_seq fin_F (fun x9 : (List (Int × Int)) => [some ((eL (eL D.int)) a0), some ((eL (eP2 D.int D.int)) x9), none, none]) (s_for (ex := D.int) (s0 := []) (q_R1 (a_p (evOn (evA rfl rfl) op_lenL) (a_0 k_R1))) (fun x1 : (List (Int × Int)) => [some ((eL (eL D.int)) a0), some ((eL (eP2 D.int D.int)) x1), none, none]) (fun (x1 : (List (Int × Int))) (x2 : Int) => [some ((eL (eL D.int)) a0), some ((eL (eP2 D.int D.int)) x1), some (D.int x2), none]) rfl (fun _ _ => rfl) fun x1 x2 =>
  (t_seq fin_L (fun x7 : (List (Int × Int)) => [some ((eL (eL D.int)) a0), some ((eL (eP2 D.int D.int)) x7), some (D.int x2), none]) (s_for (ex := D.int) (s0 := x1) (q_L (b_iL (q_f2 (b_p rfl (b_p rfl op_ixL))) fun _ => rfl)) (fun x3 : (List (Int × Int)) => [some ((eL (eL D.int)) a0), some ((eL (eP2 D.int D.int)) x3), some (D.int x2), none]) (fun (x3 : (List (Int × Int))) (x4 : Int) => [some ((eL (eL D.int)) a0), some ((eL (eP2 D.int D.int)) x3), some (D.int x2), some (D.int x4)]) rfl (fun _ _ => rfl) fun x3 x4 =>
  (t_seq fin_L (fun x5 : (List (Int × Int)) => [some ((eL (eL D.int)) a0), some ((eL (eP2 D.int D.int)) x5), some (D.int x2), some (D.int x4)]) (s_app (e := (eP2 D.int D.int)) (xs := x3) (d := (x2, x4)) (fun ys : (List (Int × Int)) => [some ((eL (eL D.int)) a0), some ((eL (eP2 D.int D.int)) ys), some (D.int x2), some (D.int x4)]) rfl rfl fun _ => rfl) fun x5 =>
  (t_next rfl))) fun x7 =>
  (t_next rfl))) fun x9 =>
  (t_end (t_retF (rf_ok (e := (eL (eP2 D.int D.int))) rfl))))))
def N_law_reaches_lli_li_i_i (a0 : (List (List Int))) (a1 : (List Int)) (a2 : Int) (a3 : Int) : Res Bool :=
  (((rngR (a0.length : Int)).bind fun x31 => (forR (σ := (List Int)) (fun x1 x2 => ((if (decide (x2 < (x1.length : Int))) = true then ((((ixR x1 x2).bind fun x21 => (ixR a0 x21)).bind fun x28 => (forR (σ := (List Int)) (fun x22 x23 => ((if ((!decide (x23 ∈ x22)) && (!decide (x23 ∈ a1))) = true then ((appR x22 x23).bind fun x26 =>
  Res.ok x26) else
  Res.ok x22).bind fun x27 =>
  Res.ok x27)) x28 x1)).bind fun x29 =>
  Res.ok x29) else
  Res.ok x1).bind fun x30 =>
  Res.ok x30)) x31 [a2])).bind fun x32 =>
  (Res.ok (decide (a3 ∈ x32))))
def N_law_free_route_lli_i_i_i (a0 : (List (List Int))) (a1 : Int) (a2 : Int) (a3 : Int) : Res (List Int) :=
  (((rngR (a0.length : Int)).bind fun x16 => ((forC (σ := ((List Int) × Int)) (β := Unit) (fun x1 x2 => (((ixR x1.1 (-1)).bind fun x3 => (Res.ok (decide (x3 = a2)))).bind fun x15 => if x15 = true then Res.ok (.out (x1.1, x1.2)) else
  ((((ixR x1.1 (-1)).bind fun x5 => (ixR a0 x5)).bind fun x7 => lcR x7 (fun x6 => Res.ok (!decide (x6 ∈ x1.1))) (fun x6 => (Res.ok x6))).bind fun x8 =>
  ((lcR x8 (fun x9 => (nx (N_law_reaches_lli_li_i_i a0 x1.1 x9 a2))) (fun x9 => (Res.ok x9))).bind fun x10 =>
  ((modR x1.2 (x10.length : Int)).bind fun x11 =>
  ((divR x1.2 (x10.length : Int)).bind fun x12 =>
  (((ixR x10 x11).bind fun x13 => appR x1.1 x13).bind fun x14 =>
  Res.ok (.go (x14, x12))))))))) x16 ([a1], a3)).bind (ctlS (β := Unit)))).bind fun x17 =>
  (Res.ok x17.1))
def N_is_number_i (a0 : Int) : Res Bool :=
  (Res.ok true)
theorem n_is_number_i (a0 : Int) : Rf (m_is_number [D.int a0]) (N_is_number_i a0) D.bl :=
  n_runF ((t_end (t_retF (rf_ok (e := D.bl) (evBv (evAndT (evB (ev1 rfl (isi_of isTy_int_int))) (evB (evBv (evNot (evB (ev1 rfl (isi_of isTy_bool_int))))))))))))
def N_is_link_i_piiq (a0 : Int) (a1 : (Int × Int)) : Res Bool :=
  (if ((!decide (2 = 2)) || (decide (a1.1 = a1.2))) = true then (Res.ok false) else
  ((lcR [a1.1, a1.2] (fun x1 => Res.ok true) (fun x1 => (Res.ok ((decide (0 ≤ x1)) && (decide (x1 < a0)))))).bind fun x2 => (Res.ok (x2.all id))))
theorem n_is_link_i_piiq (a0 : Int) (a1 : (Int × Int)) : Rf (m_is_link [D.int a0, (eP2 D.int D.int) a1]) (N_is_link_i_piiq a0 a1) D.bl :=
  n_runF ((t_if (evOr (evB (ev2 rfl rfl (op_ne (e := D.int) (x := 2) (x' := 2)))) (evB (ev2 rfl rfl (op_eq (e := D.int) (x := a1.1) (x' := a1.2))))) (t_retF (rf_ok (e := D.bl) rfl))
  (t_nextS (t_end (t_retF (q_on (a_i (rf_lcp (it_T (e := D.int) (xs := [a1.1, a1.2]) rfl) (fun x1 : Int => [some (D.int a0), some ((eP2 D.int D.int) a1), some (D.int x1)]) (fun _ => rfl) (fun x1 => (rf_ok (v := true) rfl)) (fun x1 => (rf_ok (e := D.bl) (evBv (evAndT (evB (evOn (evA rfl rfl) (ev_chk (n_is_number_i x1) rfl))) (evB (evChain rfl rfl rfl rfl rfl))))))) fun x2 => (a_0 (rf_ok op_allL)))))))))
def N_checked_links_i_tpiiq (a0 : Int) (a1 : (List (Int × Int))) : Res (List (Int × Int)) :=
  ((forR (σ := Unit) (fun x1 x2 => (((N_is_link_i_piiq a0 x2.2).bind fun x3 => Res.ok (!x3)).bind fun x4 => if x4 = true then (Res.ex "BadLink" [("index", D.int x2.1)]) else
  Res.ok ())) (enumI 0 a1) ()).bind fun x5 =>
  (((lcR a1 (fun x6 => Res.ok true) (fun x6 => (Res.ok ((if x6.2 < x6.1 then x6.2 else x6.1), (if x6.2 > x6.1 then x6.2 else x6.1))))).bind sortPR).bind fun x7 => (Res.ok x7)))
theorem n_checked_links_i_tpiiq (a0 : Int) (a1 : (List (Int × Int))) : Rf (m_checked_links [D.int a0, (eT (eP2 D.int D.int)) a1]) (N_checked_links_i_tpiiq a0 a1) (eT (eP2 D.int D.int)) :=
  n_runF ((t_seq fin_F (fun x5 : Unit => [some (D.int a0), some ((eT (eP2 D.int D.int)) a1), none, none, none, none]) (s_forp (ex := (eP2 D.int (eP2 D.int D.int))) (s0 := ()) (it_enT (e := (eP2 D.int D.int)) (xs := a1) rfl) (fun x1 : Unit => [some (D.int a0), some ((eT (eP2 D.int D.int)) a1), none, none, none, none]) (fun (x1 : Unit) (x2 : (Int × (Int × Int))) => [some (D.int a0), some ((eT (eP2 D.int D.int)) a1), some (D.int x2.1), some ((eP2 D.int D.int) x2.2), none, none]) rfl (fun _ _ => rfl) fun x1 x2 =>
  (t_ifI fin_L (q_Not (b_i (q_Tr (b_iT (q_on (a_p rfl (a_p rfl (a_0 (rf_chk (n_is_link_i_piiq a0 x2.2) rfl))))))) fun _ => rf_ok rfl)) (t_raise fin_L (a_p rfl (a_0 (rf_ex rfl))))
  (t_nextS (t_next rfl)))) fun x5 =>
  (t_end (t_retF (q_on (a_i (rf_sortSc (rf_lcp (it_T (e := (eP2 D.int D.int)) (xs := a1) rfl) (fun x6 : (Int × Int) => [some (D.int a0), some ((eT (eP2 D.int D.int)) a1), none, none, some (D.int x6.1), some (D.int x6.2)]) (fun _ => rfl) (fun x6 => (rf_ok (v := true) rfl)) (fun x6 => (rf_ok (e := (eP2 D.int D.int)) rfl)))) fun x7 => (a_0 (rf_ok rfl))))))))
def N_near_nodes_i_tpiiq (a0 : Int) (a1 : (List (Int × Int))) : Res (List (List Int)) :=
  (((rngR a0).bind fun x2 => lcR x2 (fun x1 => Res.ok true) (fun x1 => (Res.ok []))).bind fun x3 =>
  ((forR (σ := (List (List Int))) (fun x4 x5 => ((app2R x4 x5.1 x5.2).bind fun x6 =>
  ((app2R x6 x5.2 x5.1).bind fun x7 =>
  Res.ok x7))) a1 x3).bind fun x8 =>
  ((lcR x8 (fun x9 => Res.ok true) (fun x9 => (Res.ok (x9.mergeSort leI)))).bind fun x10 => (Res.ok x10))))
theorem n_near_nodes_i_tpiiq (a0 : Int) (a1 : (List (Int × Int))) : Rf (m_near_nodes [D.int a0, (eT (eP2 D.int D.int)) a1]) (N_near_nodes_i_tpiiq a0 a1) (eT (eT D.int)) :=
  n_runF ((t_seq fin_F (fun x3 : (List (List Int)) => [some (D.int a0), some ((eT (eP2 D.int D.int)) a1), some ((eL (eL D.int)) x3), none, none, none, none]) (s_set (e := (eL (eL D.int))) _ (rf_lc (q_R1 (a_p rfl (a_0 k_R1))) (fun x1 : Int => [some (D.int a0), some ((eT (eP2 D.int D.int)) a1), none, none, none, some (D.int x1), none]) (fun _ => rfl) (fun x1 => (rf_ok (v := true) rfl)) (fun x1 => (rf_ok (e := (eL D.int)) rfl))) fun _ => rfl) fun x3 =>
  (t_seq fin_F (fun x8 : (List (List Int)) => [some (D.int a0), some ((eT (eP2 D.int D.int)) a1), some ((eL (eL D.int)) x8), none, none, none, none]) (s_forp (ex := (eP2 D.int D.int)) (s0 := x3) (it_T (e := (eP2 D.int D.int)) (xs := a1) rfl) (fun x4 : (List (List Int)) => [some (D.int a0), some ((eT (eP2 D.int D.int)) a1), some ((eL (eL D.int)) x4), none, none, none, none]) (fun (x4 : (List (List Int))) (x5 : (Int × Int)) => [some (D.int a0), some ((eT (eP2 D.int D.int)) a1), some ((eL (eL D.int)) x4), some (D.int x5.1), some (D.int x5.2), none, none]) rfl (fun _ _ => rfl) fun x4 x5 =>
  (t_assoc (t_seq fin_L (fun x6 : (List (List Int)) => [some (D.int a0), some ((eT (eP2 D.int D.int)) a1), some ((eL (eL D.int)) x6), some (D.int x5.1), some (D.int x5.2), none, none]) (s_app2 (e := D.int) (xs := x4) (d := x5.2) (fun ys : (List (List Int)) => [some (D.int a0), some ((eT (eP2 D.int D.int)) a1), some ((eL (eL D.int)) ys), some (D.int x5.1), some (D.int x5.2), none, none]) rfl rfl rfl fun _ => rfl) fun x6 =>
  (t_seq fin_L (fun x7 : (List (List Int)) => [some (D.int a0), some ((eT (eP2 D.int D.int)) a1), some ((eL (eL D.int)) x7), some (D.int x5.1), some (D.int x5.2), none, none]) (s_app2 (e := D.int) (xs := x6) (d := x5.1) (fun ys : (List (List Int)) => [some (D.int a0), some ((eT (eP2 D.int D.int)) a1), some ((eL (eL D.int)) ys), some (D.int x5.1), some (D.int x5.2), none, none]) rfl rfl rfl fun _ => rfl) fun x7 =>
  (t_next rfl))))) fun x8 =>
  (t_end (t_retF (q_on (a_i (rf_lcp (it_L (e := (eL D.int)) (xs := x8) rfl) (fun x9 : (List Int) => [some (D.int a0), some ((eT (eP2 D.int D.int)) a1), some ((eL (eL D.int)) x8), none, none, none, some ((eL D.int) x9)]) (fun _ => rfl) (fun x9 => (rf_ok (v := true) rfl)) (fun x9 => (rf_ok (e := (eT D.int)) (evOn (evA (evOn (evA rfl rfl) op_sortL) rfl) rfl)))) fun x10 => (a_0 (rf_ok rfl)))))))))
def N_lanes_of_tti (a0 : (List (List Int))) : Res (List (Int × Int)) :=
  (((rngR (a0.length : Int)).bind fun x3 => lc2R x3 (fun x1 => Res.ok true) (fun x1 => (ixR a0 x1)) (fun x1 x2 => Res.ok true) (fun x1 x2 => (Res.ok (x1, x2)))).bind fun x4 => (Res.ok x4))
theorem n_lanes_of_tti (a0 : (List (List Int))) : Rf (m_lanes_of [(eT (eT D.int)) a0]) (N_lanes_of_tti a0) (eT (eP2 D.int D.int)) :=
  n_runF ((t_end (t_retF (q_on (a_i (rf_lc2 (q_R1 (a_p (evOn (evA rfl rfl) op_lenT) (a_0 k_R1))) (fun x1 : Int => [some ((eT (eT D.int)) a0), some (D.int x1), none]) (fun (x1 : Int) (x2 : Int) => [some ((eT (eT D.int)) a0), some (D.int x1), some (D.int x2)]) (fun _ => rfl) (fun x1 => (rf_ok (v := true) rfl)) (fun x1 => (q_L (b_iL (q_f2 (b_p rfl (b_p rfl op_ixT))) fun _ => rfl))) (fun _ _ => rfl) (fun x1 x2 => (rf_ok (v := true) rfl)) (fun x1 x2 => (rf_ok (e := (eP2 D.int D.int)) rfl))) fun x4 => (a_0 (rf_ok rfl)))))))
def N_reached_i_tpiiq_i (a0 : Int) (a1 : (List (Int × Int))) (a2 : Int) : Res (List Int) :=
  (((rngR a0).bind fun x2 => lcR x2 (fun x1 => Res.ok true) (fun x1 => (Res.ok false))).bind fun x3 =>
  ((setR x3 a2 true).bind fun x4 =>
  (((whileC (σ := ((List Bool) × (List Int))) (β := Unit) (fun x5 => Res.ok (!x5.2.isEmpty)) (fun x5 => ((nx (pop0R x5.2)).bind fun x7 =>
  ((forR (σ := ((List Bool) × (List Int))) (fun x8 x9 => (((if (decide (x9.1 = x7.1)) = true then ((ixR x8.1 x9.2).bind fun x18 => Res.ok (!x18)) else Res.ok false).bind fun x21 => if x21 = true then ((setR x8.1 x9.2 true).bind fun x19 =>
  ((appR x8.2 x9.2).bind fun x20 =>
  Res.ok (x19, x20))) else
  Res.ok (x8.1, x8.2)).bind fun x22 =>
  (((if (decide (x9.2 = x7.1)) = true then ((ixR x22.1 x9.1).bind fun x31 => Res.ok (!x31)) else Res.ok false).bind fun x34 => if x34 = true then ((setR x22.1 x9.1 true).bind fun x32 =>
  ((appR x22.2 x9.1).bind fun x33 =>
  Res.ok (x32, x33))) else
  Res.ok (x22.1, x22.2)).bind fun x35 =>
  Res.ok (x35.1, x35.2)))) a1 (x5.1, x7.2)).bind fun x36 =>
  Res.ok (.go (x36.1, x36.2))))) FUEL (x4, [a2])).bind (ctlS (β := Unit))).bind fun x37 =>
  (((rngR a0).bind fun x39 => lcR x39 (fun x38 => (ixR x37.1 x38)) (fun x38 => (Res.ok x38))).bind fun x40 => (Res.ok x40)))))
theorem n_reached_i_tpiiq_i (a0 : Int) (a1 : (List (Int × Int))) (a2 : Int) : Rf (m_reached [D.int a0, (eT (eP2 D.int D.int)) a1, D.int a2]) (N_reached_i_tpiiq_i a0 a1 a2) (eT D.int) :=
  n_runF ((t_seq fin_F (fun x3 : (List Bool) => [some (D.int a0), some ((eT (eP2 D.int D.int)) a1), some (D.int a2), some ((eL D.bl) x3), none, none, none, none]) (s_set (e := (eL D.bl)) _ (rf_lc (q_R1 (a_p rfl (a_0 k_R1))) (fun x1 : Int => [some (D.int a0), some ((eT (eP2 D.int D.int)) a1), some (D.int a2), none, none, some (D.int x1), none, none]) (fun _ => rfl) (fun x1 => (rf_ok (v := true) rfl)) (fun x1 => (rf_ok (e := D.bl) rfl))) fun _ => rfl) fun x3 =>
  (t_seq fin_F (fun x4 : (List Bool) => [some (D.int a0), some ((eT (eP2 D.int D.int)) a1), some (D.int a2), some ((eL D.bl) x4), none, none, none, none]) (s_setIx (e := D.bl) (xs := x3) (d := true) (fun ys : (List Bool) => [some (D.int a0), some ((eT (eP2 D.int D.int)) a1), some (D.int a2), some ((eL D.bl) ys), none, none, none, none]) rfl rfl rfl fun _ => rfl) fun x4 =>
  (t_seqp [some (D.int a0), some ((eT (eP2 D.int D.int)) a1), some (D.int a2), some ((eL D.bl) x4), some ((eL D.int) [a2]), none, none, none] (set_p rfl rfl) (t_seq fin_F (fun x37 : ((List Bool) × (List Int)) => [some (D.int a0), some ((eT (eP2 D.int D.int)) a1), some (D.int a2), some ((eL D.bl) x37.1), some ((eL D.int) x37.2), none, none, none]) (s_while (s0 := (x4, [a2])) (fun x5 : ((List Bool) × (List Int)) => [some (D.int a0), some ((eT (eP2 D.int D.int)) a1), some (D.int a2), some ((eL D.bl) x5.1), some ((eL D.int) x5.2), none, none, none]) rfl (fun x5 => (rf_ok (e := fun b => b) (evNx (evTr rfl op_trL)))) fun x5 =>
  (t_assoc (t_seq fin_L (fun x7 : (Int × (List Int)) => [some (D.int a0), some ((eT (eP2 D.int D.int)) a1), some (D.int a2), some ((eL D.bl) x5.1), some ((eL D.int) x7.2), some (D.int x7.1), none, none]) (s_setX (fun v : (Int × (List Int)) => [some (D.int a0), some ((eT (eP2 D.int D.int)) a1), some (D.int a2), some ((eL D.bl) x5.1), some ((eL D.int) v.2), some (D.int v.1), none, none]) (x_pop0 (e := D.int) (xs := x5.2) (fun ys : (List Int) => [some (D.int a0), some ((eT (eP2 D.int D.int)) a1), some (D.int a2), some ((eL D.bl) x5.1), some ((eL D.int) ys), none, none, none]) rfl fun _ => rfl) fun _ => rfl) fun x7 =>
  (t_seq fin_L (fun x36 : ((List Bool) × (List Int)) => [some (D.int a0), some ((eT (eP2 D.int D.int)) a1), some (D.int a2), some ((eL D.bl) x36.1), some ((eL D.int) x36.2), some (D.int x7.1), none, none]) (s_forp (ex := (eP2 D.int D.int)) (s0 := (x5.1, x7.2)) (it_T (e := (eP2 D.int D.int)) (xs := a1) rfl) (fun x8 : ((List Bool) × (List Int)) => [some (D.int a0), some ((eT (eP2 D.int D.int)) a1), some (D.int a2), some ((eL D.bl) x8.1), some ((eL D.int) x8.2), some (D.int x7.1), none, none]) (fun (x8 : ((List Bool) × (List Int))) (x9 : (Int × Int)) => [some (D.int a0), some ((eT (eP2 D.int D.int)) a1), some (D.int a2), some ((eL D.bl) x8.1), some ((eL D.int) x8.2), some (D.int x7.1), some (D.int x9.1), some (D.int x9.2)]) rfl (fun _ _ => rfl) fun x8 x9 =>
  (t_assoc (t_seq fin_L (fun x22 : ((List Bool) × (List Int)) => [some (D.int a0), some ((eT (eP2 D.int D.int)) a1), some (D.int a2), some ((eL D.bl) x22.1), some ((eL D.int) x22.2), some (D.int x7.1), some (D.int x9.1), some (D.int x9.2)]) (s_if (o' := (fun s : ((List Bool) × (List Int)) => Fl.nx [some (D.int a0), some ((eT (eP2 D.int D.int)) a1), some (D.int a2), some ((eL D.bl) s.1), some ((eL D.int) s.2), some (D.int x7.1), some (D.int x9.1), some (D.int x9.2)])) (t_ifI fin_S (rAnd (evB (ev2 rfl rfl (op_eq (e := D.int) (x := x9.1) (x' := x7.1)))) (q_Not (b_i (q_Tr (b_iT (q_f2 (b_p rfl (b_p rfl op_ixL))))) fun _ => rf_ok rfl))) (t_assoc (t_seq fin_S (fun x19 : (List Bool) => [some (D.int a0), some ((eT (eP2 D.int D.int)) a1), some (D.int a2), some ((eL D.bl) x19), some ((eL D.int) x8.2), some (D.int x7.1), some (D.int x9.1), some (D.int x9.2)]) (s_setIx (e := D.bl) (xs := x8.1) (d := true) (fun ys : (List Bool) => [some (D.int a0), some ((eT (eP2 D.int D.int)) a1), some (D.int a2), some ((eL D.bl) ys), some ((eL D.int) x8.2), some (D.int x7.1), some (D.int x9.1), some (D.int x9.2)]) rfl rfl rfl fun _ => rfl) fun x19 =>
  (t_seq fin_S (fun x20 : (List Int) => [some (D.int a0), some ((eT (eP2 D.int D.int)) a1), some (D.int a2), some ((eL D.bl) x19), some ((eL D.int) x20), some (D.int x7.1), some (D.int x9.1), some (D.int x9.2)]) (s_app (e := D.int) (xs := x8.2) (d := x9.2) (fun ys : (List Int) => [some (D.int a0), some ((eT (eP2 D.int D.int)) a1), some (D.int a2), some ((eL D.bl) x19), some ((eL D.int) ys), some (D.int x7.1), some (D.int x9.1), some (D.int x9.2)]) rfl rfl fun _ => rfl) fun x20 =>
  (t_next rfl))))
  (t_nextS (t_next rfl)))) fun x22 =>
  (t_seq fin_L (fun x35 : ((List Bool) × (List Int)) => [some (D.int a0), some ((eT (eP2 D.int D.int)) a1), some (D.int a2), some ((eL D.bl) x35.1), some ((eL D.int) x35.2), some (D.int x7.1), some (D.int x9.1), some (D.int x9.2)]) (s_if (o' := (fun s : ((List Bool) × (List Int)) => Fl.nx [some (D.int a0), some ((eT (eP2 D.int D.int)) a1), some (D.int a2), some ((eL D.bl) s.1), some ((eL D.int) s.2), some (D.int x7.1), some (D.int x9.1), some (D.int x9.2)])) (t_ifI fin_S (rAnd (evB (ev2 rfl rfl (op_eq (e := D.int) (x := x9.2) (x' := x7.1)))) (q_Not (b_i (q_Tr (b_iT (q_f2 (b_p rfl (b_p rfl op_ixL))))) fun _ => rf_ok rfl))) (t_assoc (t_seq fin_S (fun x32 : (List Bool) => [some (D.int a0), some ((eT (eP2 D.int D.int)) a1), some (D.int a2), some ((eL D.bl) x32), some ((eL D.int) x22.2), some (D.int x7.1), some (D.int x9.1), some (D.int x9.2)]) (s_setIx (e := D.bl) (xs := x22.1) (d := true) (fun ys : (List Bool) => [some (D.int a0), some ((eT (eP2 D.int D.int)) a1), some (D.int a2), some ((eL D.bl) ys), some ((eL D.int) x22.2), some (D.int x7.1), some (D.int x9.1), some (D.int x9.2)]) rfl rfl rfl fun _ => rfl) fun x32 =>
  (t_seq fin_S (fun x33 : (List Int) => [some (D.int a0), some ((eT (eP2 D.int D.int)) a1), some (D.int a2), some ((eL D.bl) x32), some ((eL D.int) x33), some (D.int x7.1), some (D.int x9.1), some (D.int x9.2)]) (s_app (e := D.int) (xs := x22.2) (d := x9.1) (fun ys : (List Int) => [some (D.int a0), some ((eT (eP2 D.int D.int)) a1), some (D.int a2), some ((eL D.bl) x32), some ((eL D.int) ys), some (D.int x7.1), some (D.int x9.1), some (D.int x9.2)]) rfl rfl fun _ => rfl) fun x33 =>
  (t_next rfl))))
  (t_nextS (t_next rfl)))) fun x35 =>
  (t_next rfl))))) fun x36 =>
  (t_next rfl))))) fun x37 =>
  (t_end (t_retF (q_on (a_i (rf_lc (q_R1 (a_p rfl (a_0 k_R1))) (fun x38 : Int => [some (D.int a0), some ((eT (eP2 D.int D.int)) a1), some (D.int a2), some ((eL D.bl) x37.1), some ((eL D.int) x37.2), some (D.int x38), none, none]) (fun _ => rfl) (fun x38 => (q_Tr (b_iT (q_f2 (b_p rfl (b_p rfl op_ixL)))))) (fun x38 => (rf_ok (e := D.int) rfl))) fun x40 => (a_0 (rf_ok rfl)))))))))))
def N_Net_init_i_lpiiq (a0 : Int) (a1 : (List (Int × Int))) : Res (Int × (List (Int × Int)) × (List (List Int)) × (List (Int × Int))) :=
  (if (!((decide (1 ≤ a0)) && (decide (a0 ≤ 24)))) = true then (Res.ex "BadSize" [("size", D.int a0)]) else
  ((Res.ok a0).bind fun x1 =>
  (((N_frozen_lpiiq a1).bind fun x2 => (N_checked_links_i_tpiiq a0 x2)).bind fun x3 =>
  ((N_near_nodes_i_tpiiq a0 ((x1, x3).2)).bind fun x4 =>
  ((N_lanes_of_tti (((x1, x3).1, (x1, x3).2, x4).2.2)).bind fun x5 =>
  ((N_reached_i_tpiiq_i a0 ((((x1, x3).1, (x1, x3).2, x4).1, ((x1, x3).1, (x1, x3).2, x4).2.1, ((x1, x3).1, (x1, x3).2, x4).2.2, x5).2.1) 0).bind fun x6 =>
  (((rngR a0).bind fun x9 => (forR (σ := Unit) (fun x7 x8 => (if (!decide (x8 ∈ x6)) = true then (Res.ex "NotConnected" [("node", D.int x8)]) else
  Res.ok ())) x9 ())).bind fun x10 =>
  Res.ok (((x1, x3).1, (x1, x3).2, x4).1, ((x1, x3).1, (x1, x3).2, x4).2.1, ((x1, x3).1, (x1, x3).2, x4).2.2, x5))))))))
theorem n_Net_init_i_lpiiq (a0 : Int) (a1 : (List (Int × Int))) : Rf (m_Net_init [D.int a0, (eL (eP2 D.int D.int)) a1]) (N_Net_init_i_lpiiq a0 a1) (eOb4 "Net" "size" "links" "near" "lane_row" D.int (eT (eP2 D.int D.int)) (eT (eT D.int)) (eT (eP2 D.int D.int))) :=
  n_runI ((t_if (evNot (evB (evChain rfl rfl rfl rfl rfl))) (t_raise fin_I (a_p rfl (a_0 (rf_ex rfl))))
  (t_nextS (t_seq fin_I (fun x1 : Int => [some ((eOb1 "Net" "size" D.int) x1), some (D.int a0), some ((eL (eP2 D.int D.int)) a1), none, none]) (s_fld (e := D.int) (ns := []) (ds := []) (fun v : Int => [some ((eOb1 "Net" "size" D.int) v), some (D.int a0), some ((eL (eP2 D.int D.int)) a1), none, none]) rfl (by decide) (rf_ok (e := D.int) rfl) fun _ => rfl) fun x1 =>
  (t_seq fin_I (fun x3 : (List (Int × Int)) => [some ((eOb2 "Net" "size" "links" D.int (eT (eP2 D.int D.int))) (x1, x3)), some (D.int a0), some ((eL (eP2 D.int D.int)) a1), none, none]) (s_fld (e := (eT (eP2 D.int D.int))) (ns := ["size"]) (ds := [D.int x1]) (fun v : (List (Int × Int)) => [some ((eOb2 "Net" "size" "links" D.int (eT (eP2 D.int D.int))) (x1, v)), some (D.int a0), some ((eL (eP2 D.int D.int)) a1), none, none]) rfl (by decide) (q_on (a_p rfl (a_i (q_on (a_p rfl (a_0 (rf_chk (n_frozen_lpiiq a1) rfl)))) fun x2 => (a_0 (rf_chk (n_checked_links_i_tpiiq a0 x2) rfl))))) fun _ => rfl) fun x3 =>
  (t_seq fin_I (fun x4 : (List (List Int)) => [some ((eOb3 "Net" "size" "links" "near" D.int (eT (eP2 D.int D.int)) (eT (eT D.int))) ((x1, x3).1, (x1, x3).2, x4)), some (D.int a0), some ((eL (eP2 D.int D.int)) a1), none, none]) (s_fld (e := (eT (eT D.int))) (ns := ["size", "links"]) (ds := [D.int ((x1, x3).1), (eT (eP2 D.int D.int)) ((x1, x3).2)]) (fun v : (List (List Int)) => [some ((eOb3 "Net" "size" "links" "near" D.int (eT (eP2 D.int D.int)) (eT (eT D.int))) ((x1, x3).1, (x1, x3).2, v)), some (D.int a0), some ((eL (eP2 D.int D.int)) a1), none, none]) rfl (by decide) (q_on (a_p rfl (a_p (ev1 rfl (fld_skip (by decide) fld_hit)) (a_0 (rf_chk (n_near_nodes_i_tpiiq a0 ((x1, x3).2)) rfl))))) fun _ => rfl) fun x4 =>
  (t_seq fin_I (fun x5 : (List (Int × Int)) => [some ((eOb4 "Net" "size" "links" "near" "lane_row" D.int (eT (eP2 D.int D.int)) (eT (eT D.int)) (eT (eP2 D.int D.int))) (((x1, x3).1, (x1, x3).2, x4).1, ((x1, x3).1, (x1, x3).2, x4).2.1, ((x1, x3).1, (x1, x3).2, x4).2.2, x5)), some (D.int a0), some ((eL (eP2 D.int D.int)) a1), none, none]) (s_fld (e := (eT (eP2 D.int D.int))) (ns := ["size", "links", "near"]) (ds := [D.int (((x1, x3).1, (x1, x3).2, x4).1), (eT (eP2 D.int D.int)) (((x1, x3).1, (x1, x3).2, x4).2.1), (eT (eT D.int)) (((x1, x3).1, (x1, x3).2, x4).2.2)]) (fun v : (List (Int × Int)) => [some ((eOb4 "Net" "size" "links" "near" "lane_row" D.int (eT (eP2 D.int D.int)) (eT (eT D.int)) (eT (eP2 D.int D.int))) (((x1, x3).1, (x1, x3).2, x4).1, ((x1, x3).1, (x1, x3).2, x4).2.1, ((x1, x3).1, (x1, x3).2, x4).2.2, v)), some (D.int a0), some ((eL (eP2 D.int D.int)) a1), none, none]) rfl (by decide) (q_on (a_p (ev1 rfl (fld_skip (by decide) (fld_skip (by decide) fld_hit))) (a_0 (rf_chk (n_lanes_of_tti (((x1, x3).1, (x1, x3).2, x4).2.2)) rfl)))) fun _ => rfl) fun x5 =>
  (t_seq fin_I (fun x6 : (List Int) => [some ((eOb4 "Net" "size" "links" "near" "lane_row" D.int (eT (eP2 D.int D.int)) (eT (eT D.int)) (eT (eP2 D.int D.int))) (((x1, x3).1, (x1, x3).2, x4).1, ((x1, x3).1, (x1, x3).2, x4).2.1, ((x1, x3).1, (x1, x3).2, x4).2.2, x5)), some (D.int a0), some ((eL (eP2 D.int D.int)) a1), some ((eT D.int) x6), none]) (s_set (e := (eT D.int)) _ (q_on (a_p rfl (a_p (ev1 rfl (fld_skip (by decide) fld_hit)) (a_p rfl (a_0 (rf_chk (n_reached_i_tpiiq_i a0 ((((x1, x3).1, (x1, x3).2, x4).1, ((x1, x3).1, (x1, x3).2, x4).2.1, ((x1, x3).1, (x1, x3).2, x4).2.2, x5).2.1) 0) rfl)))))) fun _ => rfl) fun x6 =>
  (t_end (t_seq fin_I (fun x10 : Unit => [some ((eOb4 "Net" "size" "links" "near" "lane_row" D.int (eT (eP2 D.int D.int)) (eT (eT D.int)) (eT (eP2 D.int D.int))) (((x1, x3).1, (x1, x3).2, x4).1, ((x1, x3).1, (x1, x3).2, x4).2.1, ((x1, x3).1, (x1, x3).2, x4).2.2, x5)), some (D.int a0), some ((eL (eP2 D.int D.int)) a1), some ((eT D.int) x6), none]) (s_for (ex := D.int) (s0 := ()) (q_R1 (a_p rfl (a_0 k_R1))) (fun x7 : Unit => [some ((eOb4 "Net" "size" "links" "near" "lane_row" D.int (eT (eP2 D.int D.int)) (eT (eT D.int)) (eT (eP2 D.int D.int))) (((x1, x3).1, (x1, x3).2, x4).1, ((x1, x3).1, (x1, x3).2, x4).2.1, ((x1, x3).1, (x1, x3).2, x4).2.2, x5)), some (D.int a0), some ((eL (eP2 D.int D.int)) a1), some ((eT D.int) x6), none]) (fun (x7 : Unit) (x8 : Int) => [some ((eOb4 "Net" "size" "links" "near" "lane_row" D.int (eT (eP2 D.int D.int)) (eT (eT D.int)) (eT (eP2 D.int D.int))) (((x1, x3).1, (x1, x3).2, x4).1, ((x1, x3).1, (x1, x3).2, x4).2.1, ((x1, x3).1, (x1, x3).2, x4).2.2, x5)), some (D.int a0), some ((eL (eP2 D.int D.int)) a1), some ((eT D.int) x6), some (D.int x8)]) rfl (fun _ _ => rfl) fun x7 x8 =>
  (t_if (evB (ev2 rfl rfl (op_nmemT (e := D.int) (x := x8) (xs := x6)))) (t_raise fin_L (a_p rfl (a_0 (rf_ex rfl))))
  (t_nextS (t_next rfl)))) fun x10 =>
  (t_next (o := (eOb4 "Net" "size" "links" "near" "lane_row" D.int (eT (eP2 D.int D.int)) (eT (eT D.int)) (eT (eP2 D.int D.int)))) (v := (((x1, x3).1, (x1, x3).2, x4).1, ((x1, x3).1, (x1, x3).2, x4).2.1, ((x1, x3).1, (x1, x3).2, x4).2.2, x5)) rfl)))))))))))
def N_frozen_ti (a0 : (List Int)) : Res (List Int) :=
  ((lcR a0 (fun x1 => Res.ok true) (fun x1 => (N_frozen_i x1))).bind fun x2 => (Res.ok x2))
theorem nr_frozen_ti (n : Nat) (a0 : (List Int)) : Rf (r_frozen (n + 2) [(eT D.int) a0]) (N_frozen_ti a0) (eT D.int) :=
  n_runF ((t_ifT (evTr (ev1 rfl (isi2_b isTy_list_tup isTy_tuple_tup)) rfl) (t_retF (q_on (a_i (rf_lcp (it_T (e := D.int) (xs := a0) rfl) (fun x1 : Int => [some ((eT D.int) a0), some (D.int x1)]) (fun _ => rfl) (fun x1 => (rf_ok (v := true) rfl)) (fun x1 => (q_on (a_p rfl (a_0 (rf_chk (nr_frozen_i (n + 0) x1) rfl)))))) fun x2 => (a_0 (rf_ok rfl)))))))
theorem n_frozen_ti (a0 : (List Int)) : Rf (m_frozen [(eT D.int) a0]) (N_frozen_ti a0) (eT D.int) := nr_frozen_ti 4 a0
def N_frozen_lti (a0 : (List (List Int))) : Res (List (List Int)) :=
  ((lcR a0 (fun x1 => Res.ok true) (fun x1 => (N_frozen_ti x1))).bind fun x2 => (Res.ok x2))
theorem nr_frozen_lti (n : Nat) (a0 : (List (List Int))) : Rf (r_frozen (n + 3) [(eL (eT D.int)) a0]) (N_frozen_lti a0) (eT (eT D.int)) :=
  n_runF ((t_ifT (evTr (ev1 rfl (isi2_a isTy_list_lst)) rfl) (t_retF (q_on (a_i (rf_lcp (it_L (e := (eT D.int)) (xs := a0) rfl) (fun x1 : (List Int) => [some ((eL (eT D.int)) a0), some ((eT D.int) x1)]) (fun _ => rfl) (fun x1 => (rf_ok (v := true) rfl)) (fun x1 => (q_on (a_p rfl (a_0 (rf_chk (nr_frozen_ti (n + 0) x1) rfl)))))) fun x2 => (a_0 (rf_ok rfl)))))))
def N_frozen_llti (a0 : (List (List (List Int)))) : Res (List (List (List Int))) :=
  ((lcR a0 (fun x1 => Res.ok true) (fun x1 => (N_frozen_lti x1))).bind fun x2 => (Res.ok x2))
theorem nr_frozen_llti (n : Nat) (a0 : (List (List (List Int)))) : Rf (r_frozen (n + 4) [(eL (eL (eT D.int))) a0]) (N_frozen_llti a0) (eT (eT (eT D.int))) :=
  n_runF ((t_ifT (evTr (ev1 rfl (isi2_a isTy_list_lst)) rfl) (t_retF (q_on (a_i (rf_lcp (it_L (e := (eL (eT D.int))) (xs := a0) rfl) (fun x1 : (List (List Int)) => [some ((eL (eL (eT D.int))) a0), some ((eL (eT D.int)) x1)]) (fun _ => rfl) (fun x1 => (rf_ok (v := true) rfl)) (fun x1 => (q_on (a_p rfl (a_0 (rf_chk (nr_frozen_lti (n + 0) x1) rfl)))))) fun x2 => (a_0 (rf_ok rfl)))))))
def N_route_lanes_ti (a0 : (List Int)) : Res (List (Int × Int)) :=
  (((rngR ((a0.length : Int) - 1)).bind fun x4 => lcR x4 (fun x1 => Res.ok true) (fun x1 => ((ixR a0 x1).bind fun x2 => ((ixR a0 (x1 + 1)).bind fun x3 => (Res.ok (x2, x3)))))).bind fun x5 => (Res.ok x5))
theorem n_route_lanes_ti (a0 : (List Int)) : Rf (m_route_lanes [(eT D.int) a0]) (N_route_lanes_ti a0) (eT (eP2 D.int D.int)) :=
  n_runF ((t_end (t_retF (q_on (a_i (rf_lc (q_R1 (a_p (ev2 (evOn (evA rfl rfl) op_lenT) rfl rfl) (a_0 k_R1))) (fun x1 : Int => [some ((eT D.int) a0), some (D.int x1)]) (fun _ => rfl) (fun x1 => (rf_ok (v := true) rfl)) (fun x1 => (q_on (a_i (q_f2 (b_p rfl (b_p rfl op_ixT))) fun x2 => (a_i (q_f2 (b_p rfl (b_p rfl op_ixT))) fun x3 => (a_0 (rf_ok rfl))))))) fun x5 => (a_0 (rf_ok rfl)))))))
def N_is_route_cNetitpiiqttitpiiqq_ti_i_i (a0 : (Int × (List (Int × Int)) × (List (List Int)) × (List (Int × Int)))) (a1 : (List Int)) (a2 : Int) (a3 : Int) : Res Bool :=
  ((N_frozen_ti a1).bind fun x1 =>
  ((if (!(!x1.isEmpty)) = true then Res.ok true else (((lcR x1 (fun x2 => Res.ok true) (fun x2 => (Res.ok ((decide (0 ≤ x2)) && (decide (x2 < a0.1)))))).bind fun x3 => (Res.ok (x3.all id))).bind fun x4 => Res.ok (!x4))).bind fun x15 => if x15 = true then (Res.ok false) else
  ((((ixR x1 0).bind fun x5 => (Res.ok (!decide (x5 = a2)))).bind fun x9 => (if x9 = true then Res.ok true else (((ixR x1 (-1)).bind fun x6 => (Res.ok (!decide (x6 = a3)))).bind fun x8 => (if x8 = true then Res.ok true else ((lenSetR x1).bind fun x7 => (Res.ok (!decide (x7 = (x1.length : Int))))))))).bind fun x14 => if x14 = true then (Res.ok false) else
  (((N_route_lanes_ti x1).bind fun x12 => lcR x12 (fun x10 => Res.ok true) (fun x10 => ((ixR a0.2.2.1 x10.1).bind fun x11 => (Res.ok (decide (x10.2 ∈ x11)))))).bind fun x13 => (Res.ok (x13.all id))))))
theorem n_is_route_cNetitpiiqttitpiiqq_ti_i_i (a0 : (Int × (List (Int × Int)) × (List (List Int)) × (List (Int × Int)))) (a1 : (List Int)) (a2 : Int) (a3 : Int) : Rf (m_is_route [(eOb4 "Net" "size" "links" "near" "lane_row" D.int (eT (eP2 D.int D.int)) (eT (eT D.int)) (eT (eP2 D.int D.int))) a0, (eT D.int) a1, D.int a2, D.int a3]) (N_is_route_cNetitpiiqttitpiiqq_ti_i_i a0 a1 a2 a3) D.bl :=
  n_runF ((t_seq fin_F (fun x1 : (List Int) => [some ((eOb4 "Net" "size" "links" "near" "lane_row" D.int (eT (eP2 D.int D.int)) (eT (eT D.int)) (eT (eP2 D.int D.int))) a0), some ((eT D.int) a1), some (D.int a2), some (D.int a3), some ((eT D.int) x1), none, none, none]) (s_set (e := (eT D.int)) _ (q_on (a_p rfl (a_0 (rf_chk (n_frozen_ti a1) rfl)))) fun _ => rfl) fun x1 =>
  (t_ifI fin_F (rOr (evNot (evTr rfl op_trT)) (q_Not (b_i (q_Tr (b_iT (q_on (a_i (rf_lcp (it_T (e := D.int) (xs := x1) rfl) (fun x2 : Int => [some ((eOb4 "Net" "size" "links" "near" "lane_row" D.int (eT (eP2 D.int D.int)) (eT (eT D.int)) (eT (eP2 D.int D.int))) a0), some ((eT D.int) a1), some (D.int a2), some (D.int a3), some ((eT D.int) x1), none, none, some (D.int x2)]) (fun _ => rfl) (fun x2 => (rf_ok (v := true) rfl)) (fun x2 => (rf_ok (e := D.bl) (evBv (evAndT (evB (evOn (evA rfl rfl) (ev_chk (n_is_number_i x2) rfl))) (evB (evChain rfl rfl (ev1 rfl fld_hit) rfl rfl))))))) fun x3 => (a_0 (rf_ok op_allL)))))) fun _ => rf_ok rfl))) (t_retF (rf_ok (e := D.bl) rfl))
  (t_nextS (t_ifI fin_F (rOrI (q_B (b_iB (q_f2 (b_i (q_f2 (b_p rfl (b_p rfl op_ixT))) fun x5 => (b_p rfl (rf_ok (op_ne (e := D.int) (x := x5) (x' := a2)))))))) (rOrI (q_B (b_iB (q_f2 (b_i (q_f2 (b_p rfl (b_p rfl op_ixT))) fun x6 => (b_p rfl (rf_ok (op_ne (e := D.int) (x := x6) (x' := a3)))))))) (q_B (b_iB (q_f2 (b_i (q_f1 (b_p rfl op_lenSet)) fun x7 => (b_p (evOn (evA rfl rfl) op_lenT) (rf_ok (op_ne (e := D.int) (x := x7) (x' := (x1.length : Int))))))))))) (t_retF (rf_ok (e := D.bl) rfl))
  (t_nextS (t_end (t_retF (q_on (a_i (rf_lc (q_L (b_iL (q_on (a_p rfl (a_0 (rf_chk (n_route_lanes_ti x1) rfl)))) fun _ => rfl)) (fun x10 : (Int × Int) => [some ((eOb4 "Net" "size" "links" "near" "lane_row" D.int (eT (eP2 D.int D.int)) (eT (eT D.int)) (eT (eP2 D.int D.int))) a0), some ((eT D.int) a1), some (D.int a2), some (D.int a3), some ((eT D.int) x1), some (D.int x10.1), some (D.int x10.2), none]) (fun _ => rfl) (fun x10 => (rf_ok (v := true) rfl)) (fun x10 => (q_f2 (b_p rfl (b_i (q_f2 (b_p (ev1 rfl (fld_skip (by decide) (fld_skip (by decide) fld_hit))) (b_p rfl op_ixT))) fun x11 => (rf_ok (op_memT (e := D.int) (x := x10.2) (xs := x11)))))))) fun x13 => (a_0 (rf_ok op_allL))))))))))))
end Kx
namespace Kx
open PySem PySem.Spec L2 Da
def F_law_places : FS := (fRet (f2 dAddL (fLc [1] (fR1 (fA (fOn (on1 dLen) (fA (fV 0) fA0)) fA0)) (gN 1) fYes (fOn gTupD (fA (fV 1) fA0))) (fOn (chk 1 m_law_lanes) (fA (fV 0) fA0))))
def m_law_places : List D → Res D := runF 2 .ow F_law_places
def F_law_passes : FS := (fSeq (fIfS (fB (f2 dEq (fOn (on1 dLen) (fA (fV 1) fA0)) (fC (.int 1)))) (fRet (f2 dIn (f2 dIx (fV 1) (fC (.int 0))) (fV 0))) fNext)
    (fSeq (fFor (fR1 (fA (f2 dSub (fOn (on1 dLen) (fA (fV 0) fA0)) (fC (.int 1))) fA0)) (gN 2) (fFgt [2] (fIfS (fAnd (fB (f2 dEq (f2 dIx (fV 0) (fV 2)) (f2 dIx (fV 1) (fC (.int 0))))) (fB (f2 dEq (f2 dIx (fV 0) (f2 dAdd (fV 2) (fC (.int 1)))) (f2 dIx (fV 1) (fC (.int 1)))))) (fRet (fC (.bl true))) fNext)))
    (fRet (fC (.bl false)))))
def m_law_passes : List D → Res D := runF 3 .sh F_law_passes
def F_passes : FS := (fSeq (fSet 1 (fOn (chk 1 m_frozen) (fA (fV 1) fA0)))
    (fSeq (fIfS (fB (f2 dEq (fOn (on1 dLen) (fA (fV 1) fA0)) (fC (.int 1)))) (fRet (f2 dIn (f2 dIx (fV 1) (fC (.int 0))) (fV 0))) fNext)
    (fRet (f2 dIn (fV 1) (fOn (chk 1 m_route_lanes) (fA (fV 0) fA0))))))
def m_passes : List D → Res D := runF 2 .sh F_passes
def N_law_places_lli (a0 : (List (List Int))) : Res (List (List Int)) :=
  ((((rngR (a0.length : Int)).bind fun x2 => lcR x2 (fun x1 => Res.ok true) (fun x1 => (Res.ok x1))).bind fun x3 => Res.ok ((List.map (fun x : Int => [x])) x3)).bind fun x5 => (((N_law_lanes_lli a0).bind fun x4 => Res.ok ((List.map (fun x : (Int × Int) => [x.1, x.2])) x4)).bind fun x6 => (catR x5 x6)))
theorem n_law_places_lli (a0 : (List (List Int))) : Rf (m_law_places [(eL (eL D.int)) a0]) (N_law_places_lli a0) (eL (eT D.int)) :=
  n_runF ((t_end (t_retF (q_f2 (b_i (rf_co (e' := (eL (eT D.int))) (List.map (fun x : Int => [x])) (rf_lc (q_R1 (a_p (evOn (evA rfl rfl) op_lenL) (a_0 k_R1))) (fun x1 : Int => [some ((eL (eL D.int)) a0), some (D.int x1)]) (fun _ => rfl) (fun x1 => (rf_ok (v := true) rfl)) (fun x1 => (rf_ok (e := (eP1 D.int)) rfl))) (cv_L (fun _ => rfl))) fun x5 => (b_i (rf_co (e' := (eL (eT D.int))) (List.map (fun x : (Int × Int) => [x.1, x.2])) (q_on (a_p rfl (a_0 (rf_chk (n_law_lanes_lli a0) rfl)))) (cv_L (fun _ => rfl))) fun x6 => (op_catLL (e := (eT D.int)))))))))
def N_frozen_li (a0 : (List Int)) : Res (List Int) :=
  ((lcR a0 (fun x1 => Res.ok true) (fun x1 => (N_frozen_i x1))).bind fun x2 => (Res.ok x2))
theorem nr_frozen_li (n : Nat) (a0 : (List Int)) : Rf (r_frozen (n + 2) [(eL D.int) a0]) (N_frozen_li a0) (eT D.int) :=
  n_runF ((t_ifT (evTr (ev1 rfl (isi2_a isTy_list_lst)) rfl) (t_retF (q_on (a_i (rf_lcp (it_L (e := D.int) (xs := a0) rfl) (fun x1 : Int => [some ((eL D.int) a0), some (D.int x1)]) (fun _ => rfl) (fun x1 => (rf_ok (v := true) rfl)) (fun x1 => (q_on (a_p rfl (a_0 (rf_chk (nr_frozen_i (n + 0) x1) rfl)))))) fun x2 => (a_0 (rf_ok rfl)))))))
def N_passes_ti_ti (a0 : (List Int)) (a1 : (List Int)) : Res Bool :=
  ((N_frozen_ti a1).bind fun x1 =>
  (if (decide ((x1.length : Int) = 1)) = true then ((ixR x1 0).bind fun x2 => (Res.ok (decide (x2 ∈ a0)))) else
  (((N_route_lanes_ti a0).bind fun x3 => Res.ok ((List.map (fun x : (Int × Int) => [x.1, x.2])) x3)).bind fun x4 => (Res.ok (hasB x1 x4)))))
theorem n_passes_ti_ti (a0 : (List Int)) (a1 : (List Int)) : Rf (m_passes [(eT D.int) a0, (eT D.int) a1]) (N_passes_ti_ti a0 a1) D.bl :=
  n_runF ((t_seq fin_F (fun x1 : (List Int) => [some ((eT D.int) a0), some ((eT D.int) x1)]) (s_set (e := (eT D.int)) _ (q_on (a_p rfl (a_0 (rf_chk (n_frozen_ti a1) rfl)))) fun _ => rfl) fun x1 =>
  (t_if (evB (ev2 (evOn (evA rfl rfl) op_lenT) rfl (op_eq (e := D.int) (x := (x1.length : Int)) (x' := 1)))) (t_retF (q_f2 (b_i (q_f2 (b_p rfl (b_p rfl op_ixT))) fun x2 => (b_p rfl (rf_ok (op_memT (e := D.int) (x := x2) (xs := a0)))))))
  (t_nextS (t_end (t_retF (q_f2 (b_p rfl (b_i (rf_co (e' := (eT (eT D.int))) (List.map (fun x : (Int × Int) => [x.1, x.2])) (q_on (a_p rfl (a_0 (rf_chk (n_route_lanes_ti a0) rfl)))) (cv_T (fun _ => rfl))) fun x4 => (rf_ok (op_memT (e := (eT D.int)) (x := x1) (xs := x4))))))))))))
def N_law_passes_ti_ti (a0 : (List Int)) (a1 : (List Int)) : Res Bool :=
  (if (decide ((a1.length : Int) = 1)) = true then ((ixR a1 0).bind fun x1 => (Res.ok (decide (x1 ∈ a0)))) else
  ((rngR ((a0.length : Int) - 1)).bind fun x11 => ((forC (σ := Unit) (β := Bool) (fun x2 x3 => ((((ixR a0 x3).bind fun x4 => ((ixR a1 0).bind fun x5 => (Res.ok (decide (x4 = x5))))).bind fun x8 => (if x8 = true then ((ixR a0 (x3 + 1)).bind fun x6 => ((ixR a1 1).bind fun x7 => (Res.ok (decide (x6 = x7))))) else Res.ok false)).bind fun x9 => if x9 = true then Res.ok (.ret true) else
  Res.ok (.go ()))) x11 ()).bind (ctlK (fun x10 => (Res.ok false)) (fun v => v)))))
theorem n_law_passes_ti_ti (a0 : (List Int)) (a1 : (List Int)) : Rf (m_law_passes [(eT D.int) a0, (eT D.int) a1]) (N_law_passes_ti_ti a0 a1) D.bl :=
  n_runF ((t_if (evB (ev2 (evOn (evA rfl rfl) op_lenT) rfl (op_eq (e := D.int) (x := (a1.length : Int)) (x' := 1)))) (t_retF (q_f2 (b_i (q_f2 (b_p rfl (b_p rfl op_ixT))) fun x1 => (b_p rfl (rf_ok (op_memT (e := D.int) (x := x1) (xs := a0)))))))
  (t_nextS (t_forC (ex := D.int) (e := D.bl) (s0 := ()) (rk := (fun v => v)) fin_F (q_R1 (a_p (ev2 (evOn (evA rfl rfl) op_lenT) rfl rfl) (a_0 k_R1))) (fun x2 : Unit => [some ((eT D.int) a0), some ((eT D.int) a1), none]) (fun (x2 : Unit) (x3 : Int) => [some ((eT D.int) a0), some ((eT D.int) a1), some (D.int x3)]) rfl (fun _ _ => rfl) (fun x2 x3 =>
  (t_ifI fin_L (rAndI (q_B (b_iB (q_f2 (b_i (q_f2 (b_p rfl (b_p rfl op_ixT))) fun x4 => (b_i (q_f2 (b_p rfl (b_p rfl op_ixT))) fun x5 => (rf_ok (op_eq (e := D.int) (x := x4) (x' := x5)))))))) (q_B (b_iB (q_f2 (b_i (q_f2 (b_p rfl (b_p rfl op_ixT))) fun x6 => (b_i (q_f2 (b_p rfl (b_p rfl op_ixT))) fun x7 => (rf_ok (op_eq (e := D.int) (x := x6) (x' := x7))))))))) (t_retp rfl rfl)
  (t_nextS (t_next rfl)))) (fun x10 =>
  (t_end (t_retF (rf_ok (e := D.bl) rfl)))) fun _ => rfl))))
def N_frozen_lli (a0 : (List (List Int))) : Res (List (List Int)) :=
  ((lcR a0 (fun x1 => Res.ok true) (fun x1 => (N_frozen_li x1))).bind fun x2 => (Res.ok x2))
theorem nr_frozen_lli (n : Nat) (a0 : (List (List Int))) : Rf (r_frozen (n + 3) [(eL (eL D.int)) a0]) (N_frozen_lli a0) (eT (eT D.int)) :=
  n_runF ((t_ifT (evTr (ev1 rfl (isi2_a isTy_list_lst)) rfl) (t_retF (q_on (a_i (rf_lcp (it_L (e := (eL D.int)) (xs := a0) rfl) (fun x1 : (List Int) => [some ((eL (eL D.int)) a0), some ((eL D.int) x1)]) (fun _ => rfl) (fun x1 => (rf_ok (v := true) rfl)) (fun x1 => (q_on (a_p rfl (a_0 (rf_chk (nr_frozen_li (n + 0) x1) rfl)))))) fun x2 => (a_0 (rf_ok rfl)))))))
end Kx
namespace Kx
open PySem PySem.Spec L2 Da
def F_law_day : FS := (fSeq (fSet 2 (fLc [4] (fR1 (fA (fV 0) fA0)) (gN 4) fYes (fV 4)))
    (fSeq (fSet 3 (fOn gLstD fA0))
    (fSeq (fFor (fR1 (fA (fV 0) fA0)) (gN 4) (fFgt [4] (fAppX 3 (fPop 2 (f2 dMod (fOn (on1 dInt) (fA (f2 dIx (fV 1) (fV 4)) fA0)) (fSc (fOn (on1 dLen) (fA (fV 2) fA0))))))))
    (fRet (fOn (on1 dTuple) (fA (fV 3) fA0))))))
def m_law_day : List D → Res D := runF 5 .sh F_law_day
def N_law_day_i_li (a0 : Int) (a1 : (List Int)) : Res (List Int) :=
  (((rngR a0).bind fun x2 => lcR x2 (fun x1 => Res.ok true) (fun x1 => (Res.ok x1))).bind fun x3 =>
  (((rngR a0).bind fun x10 => (forR (σ := ((List Int) × (List Int))) (fun x4 x5 => (((nx ((nx (((ixR a1 x5).bind fun x6 => (Res.ok x6)).bind fun x7 => (modR x7 (x4.1.length : Int)))).bind fun x8 => popR x4.1 x8)).bind fun v => (appR x4.2 v.1).bind fun ys => Res.ok (ys, v.2)).bind fun x9 =>
  Res.ok (x9.2, x9.1))) x10 (x3, []))).bind fun x11 =>
  (Res.ok x11.2)))
theorem n_law_day_i_li (a0 : Int) (a1 : (List Int)) : Rf (m_law_day [D.int a0, (eL D.int) a1]) (N_law_day_i_li a0 a1) (eT D.int) :=
  n_runF ((t_seq fin_F (fun x3 : (List Int) => [some (D.int a0), some ((eL D.int) a1), some ((eL D.int) x3), none, none]) (s_set (e := (eL D.int)) _ (rf_lc (q_R1 (a_p rfl (a_0 k_R1))) (fun x1 : Int => [some (D.int a0), some ((eL D.int) a1), none, none, some (D.int x1)]) (fun _ => rfl) (fun x1 => (rf_ok (v := true) rfl)) (fun x1 => (rf_ok (e := D.int) rfl))) fun _ => rfl) fun x3 =>
  (t_seqp [some (D.int a0), some ((eL D.int) a1), some ((eL D.int) x3), some ((eL D.int) []), none] (set_p rfl rfl) (t_seq fin_F (fun x11 : ((List Int) × (List Int)) => [some (D.int a0), some ((eL D.int) a1), some ((eL D.int) x11.1), some ((eL D.int) x11.2), none]) (s_for (ex := D.int) (s0 := (x3, [])) (q_R1 (a_p rfl (a_0 k_R1))) (fun x4 : ((List Int) × (List Int)) => [some (D.int a0), some ((eL D.int) a1), some ((eL D.int) x4.1), some ((eL D.int) x4.2), none]) (fun (x4 : ((List Int) × (List Int))) (x5 : Int) => [some (D.int a0), some ((eL D.int) a1), some ((eL D.int) x4.1), some ((eL D.int) x4.2), some (D.int x5)]) rfl (fun _ _ => rfl) fun x4 x5 =>
  (t_seq fin_L (fun x9 : ((List Int) × (List Int)) => [some (D.int a0), some ((eL D.int) a1), some ((eL D.int) x9.2), some ((eL D.int) x9.1), some (D.int x5)]) (s_appX (e := D.int) (xs := x4.2) (fun v : ((List Int) × (List Int)) => [some (D.int a0), some ((eL D.int) a1), some ((eL D.int) v.2), some ((eL D.int) v.1), some (D.int x5)]) rfl (x_popI (e := D.int) (xs := x4.1) (fun ys : (List Int) => [some (D.int a0), some ((eL D.int) a1), some ((eL D.int) ys), some ((eL D.int) x4.2), some (D.int x5)]) rfl (q_f2 (b_i (q_on (a_i (q_f2 (b_p rfl (b_p rfl op_ixL))) fun x6 => (a_0 (rf_ok rfl)))) fun x7 => (b_p (evSc (evOn (evA rfl rfl) op_lenL) rfl) op_mod))) fun _ => rfl) (fun _ => rfl) fun _ _ => rfl) fun x9 =>
  (t_next rfl))) fun x11 =>
  (t_end (t_retF (rf_ok (e := (eT D.int)) rfl)))))))
end Kx
namespace Kx
open PySem PySem.Spec L2 Da
def F_law_net : FS := (fSeq (fSet 2 (fOn (on2 dMin2) (fA (fV 1) (fA (f2 dIx (fOn gLstD (fA (fC (.int 3)) (fA (fC (.int 4)) (fA (fC (.int 5)) (fA (fC (.int 6)) (fA (fC (.int 7)) (fA (fC (.int 2)) (fA (fC (.int 4)) (fA (fC (.int 1)) fA0))))))))) (f2 dIx (fV 0) (fC (.int 0)))) fA0))))
    (fSeq (fSet 3 (fLc [6] (fR1 (fA (fV 2) fA0)) (gN 6) fYes (fV 6)))
    (fSeq (fSetLcX 4 [6] (fR1 (fA (fV 2) fA0)) (gN 6) (fPop 3 (f2 dMod (f2 dDiv (fOn (on1 dInt) (fA (f2 dIx (fV 0) (fV 6)) fA0)) (fOn (on2 dMax2) (fA (fC (.int 1)) (fA (fV 6) fA0)))) (fSc (fOn (on1 dLen) (fA (fV 3) fA0))))))
    (fSeq (fSet 5 (fOn gLstD fA0))
    (fSeq (fFor (fR2 (fA (fC (.int 1)) (fA (fV 2) fA0))) (gN 6) (fFgt [6, 7] (fSeq (fSet 7 (f2 dIx (fV 4) (f2 dMod (fOn (on1 dInt) (fA (f2 dIx (fV 0) (fV 6)) fA0)) (fV 6))))
    (fApp 5 (fOn gTupD (fA (fOn (on2 dMin2) (fA (fV 7) (fA (f2 dIx (fV 4) (fV 6)) fA0))) (fA (fOn (on2 dMax2) (fA (fV 7) (fA (f2 dIx (fV 4) (fV 6)) fA0))) fA0)))))))
    (fSeq (fFor (fR1 (fA (fC (.int 4)) fA0)) (gN 6) (fFgt [6, 7, 8] (fSeq (fSet 7 (f2 dMod (fOn (on1 dInt) (fA (f2 dIx (fV 0) (f2 dAdd (fC (.int 8)) (f2 dMul (fC (.int 3)) (fV 6)))) fA0)) (fV 2)))
    (fSeq (fSet 8 (f2 dMod (fOn (on1 dInt) (fA (f2 dIx (fV 0) (f2 dAdd (fC (.int 9)) (f2 dMul (fC (.int 3)) (fV 6)))) fA0)) (fV 2)))
    (fFgt [] (fIfS (fAnd (fB (f2 dGt (f2 dIx (fV 0) (f2 dAdd (fC (.int 7)) (f2 dMul (fC (.int 3)) (fV 6)))) (fC (.int 0)))) (fAnd (fB (f2 dNe (fV 7) (fV 8))) (fNx (fB (f2 dNotIn (fOn gTupD (fA (fOn (on2 dMin2) (fA (fV 7) (fA (fV 8) fA0))) (fA (fOn (on2 dMax2) (fA (fV 7) (fA (fV 8) fA0))) fA0))) (fV 5)))))) (fApp 5 (fOn gTupD (fA (fOn (on2 dMin2) (fA (fV 7) (fA (fV 8) fA0))) (fA (fOn (on2 dMax2) (fA (fV 7) (fA (fV 8) fA0))) fA0)))) fNext))))))
    (fRet (fOn gLstD (fA (fV 2) (fA (fOn (on1 dSorted) (fA (fV 5) fA0)) fA0))))))))))
def m_law_net : List D → Res D := runF 9 .ow F_law_net
def N_law_net_li_i (a0 : (List Int)) (a1 : Int) : Res (Int × (List (Int × Int))) :=
  ((((ixR a0 0).bind fun x1 => (ixR [3, 4, 5, 6, 7, 2, 4, 1] x1)).bind fun x2 => (Res.ok (if x2 < a1 then x2 else a1))).bind fun x3 =>
  (((rngR x3).bind fun x5 => lcR x5 (fun x4 => Res.ok true) (fun x4 => (Res.ok x4))).bind fun x6 =>
  (((rngR x3).bind fun x13 => lcXR x13 x6 (fun (x7 : (List Int)) (x8 : Int) => ((nx ((((ixR a0 x8).bind fun x9 => (Res.ok x9)).bind fun x10 => (divR x10 (if x8 > 1 then x8 else 1))).bind fun x11 => (modR x11 (x7.length : Int)))).bind fun x12 => popR x7 x12))).bind fun x14 =>
  (((rng2R 1 x3).bind fun x27 => (forR (σ := (List (Int × Int))) (fun x15 x16 => (((((ixR a0 x16).bind fun x17 => (Res.ok x17)).bind fun x18 => (modR x18 x16)).bind fun x19 => (ixR x14.1 x19)).bind fun x20 =>
  (((((ixR x14.1 x16).bind fun x21 => (Res.ok (if x21 < x20 then x21 else x20))).bind fun x23 => (((ixR x14.1 x16).bind fun x22 => (Res.ok (if x22 > x20 then x22 else x20))).bind fun x24 => (Res.ok (x23, x24)))).bind fun x25 => appR x15 x25).bind fun x26 =>
  Res.ok x26))) x27 [])).bind fun x28 =>
  (((rngR 4).bind fun x60 => (forR (σ := (List (Int × Int))) (fun x29 x30 => ((((((mulR 3 x30).bind fun x31 => (Res.ok (8 + x31))).bind fun x32 => (ixR a0 x32)).bind fun x33 => (Res.ok x33)).bind fun x34 => (modR x34 x3)).bind fun x35 =>
  ((((((mulR 3 x30).bind fun x36 => (Res.ok (9 + x36))).bind fun x37 => (ixR a0 x37)).bind fun x38 => (Res.ok x38)).bind fun x39 => (modR x39 x3)).bind fun x40 =>
  (((((((mulR 3 x30).bind fun x53 => (Res.ok (7 + x53))).bind fun x54 => (ixR a0 x54)).bind fun x55 => (Res.ok (decide (0 < x55)))).bind fun x56 => (if x56 = true then (Res.ok ((!decide (x35 = x40)) && (!hasB ((if x40 < x35 then x40 else x35), (if x40 > x35 then x40 else x35)) x29))) else Res.ok false)).bind fun x58 => if x58 = true then ((appR x29 ((if x40 < x35 then x40 else x35), (if x40 > x35 then x40 else x35))).bind fun x57 =>
  Res.ok x57) else
  Res.ok x29).bind fun x59 =>
  Res.ok x59)))) x60 x28)).bind fun x61 =>
  (Res.ok (x3, (x61.mergeSort leP))))))))
theorem n_law_net_li_i (a0 : (List Int)) (a1 : Int) : Rf (m_law_net [(eL D.int) a0, D.int a1]) (N_law_net_li_i a0 a1) (eH2 D.int (eL (eP2 D.int D.int))) :=
  n_runF ((t_seq fin_F (fun x3 : Int => [some ((eL D.int) a0), some (D.int a1), some (D.int x3), none, none, none, none, none, none]) (s_set (e := D.int) _ (q_on (a_p rfl (a_i (q_f2 (b_p rfl (b_i (q_f2 (b_p rfl (b_p rfl op_ixL))) fun x1 => op_ixL))) fun x2 => (a_0 (rf_ok rfl))))) fun _ => rfl) fun x3 =>
  (t_seq fin_F (fun x6 : (List Int) => [some ((eL D.int) a0), some (D.int a1), some (D.int x3), some ((eL D.int) x6), none, none, none, none, none]) (s_set (e := (eL D.int)) _ (rf_lc (q_R1 (a_p rfl (a_0 k_R1))) (fun x4 : Int => [some ((eL D.int) a0), some (D.int a1), some (D.int x3), none, none, none, some (D.int x4), none, none]) (fun _ => rfl) (fun x4 => (rf_ok (v := true) rfl)) (fun x4 => (rf_ok (e := D.int) rfl))) fun _ => rfl) fun x6 =>
  (t_seq fin_F (fun x14 : (List Int × (List Int)) => [some ((eL D.int) a0), some (D.int a1), some (D.int x3), some ((eL D.int) x14.2), some ((eL D.int) x14.1), none, none, none, none]) (s_setLcXI (ex := D.int) (eb := D.int) (s0 := x6) (q_R1 (a_p rfl (a_0 k_R1))) (fun x7 : (List Int) => [some ((eL D.int) a0), some (D.int a1), some (D.int x3), some ((eL D.int) x7), none, none, none, none, none]) (fun (x7 : (List Int)) (x8 : Int) => [some ((eL D.int) a0), some (D.int a1), some (D.int x3), some ((eL D.int) x7), none, none, some (D.int x8), none, none]) (fun (x7 : (List Int)) (x8 : Int) (ys : (List Int)) => [some ((eL D.int) a0), some (D.int a1), some (D.int x3), some ((eL D.int) ys), none, none, some (D.int x8), none, none]) (fun v : (List Int × (List Int)) => [some ((eL D.int) a0), some (D.int a1), some (D.int x3), some ((eL D.int) v.2), some ((eL D.int) v.1), none, none, none, none]) rfl (fun _ _ => rfl) (fun x7 x8 => (x_popI (e := D.int) (xs := x7) (fun ys : (List Int) => [some ((eL D.int) a0), some (D.int a1), some (D.int x3), some ((eL D.int) ys), none, none, some (D.int x8), none, none]) rfl (q_f2 (b_i (q_f2 (b_i (q_on (a_i (q_f2 (b_p rfl (b_p rfl op_ixL))) fun x9 => (a_0 (rf_ok rfl)))) fun x10 => (b_p rfl op_div))) fun x11 => (b_p (evSc (evOn (evA rfl rfl) op_lenL) rfl) op_mod))) fun _ => rfl)) (fun _ _ _ => rfl) fun _ => rfl) fun x14 =>
  (t_seqp [some ((eL D.int) a0), some (D.int a1), some (D.int x3), some ((eL D.int) x14.2), some ((eL D.int) x14.1), some ((eL (eP2 D.int D.int)) []), none, none, none] (set_p rfl rfl) (t_seq fin_F (fun x28 : (List (Int × Int)) => [some ((eL D.int) a0), some (D.int a1), some (D.int x3), some ((eL D.int) x14.2), some ((eL D.int) x14.1), some ((eL (eP2 D.int D.int)) x28), none, none, none]) (s_for (ex := D.int) (s0 := []) (q_R2 (a_p rfl (a_p rfl (a_0 k_R2)))) (fun x15 : (List (Int × Int)) => [some ((eL D.int) a0), some (D.int a1), some (D.int x3), some ((eL D.int) x14.2), some ((eL D.int) x14.1), some ((eL (eP2 D.int D.int)) x15), none, none, none]) (fun (x15 : (List (Int × Int))) (x16 : Int) => [some ((eL D.int) a0), some (D.int a1), some (D.int x3), some ((eL D.int) x14.2), some ((eL D.int) x14.1), some ((eL (eP2 D.int D.int)) x15), some (D.int x16), none, none]) rfl (fun _ _ => rfl) fun x15 x16 =>
  (t_assoc (t_seq fin_L (fun x20 : Int => [some ((eL D.int) a0), some (D.int a1), some (D.int x3), some ((eL D.int) x14.2), some ((eL D.int) x14.1), some ((eL (eP2 D.int D.int)) x15), some (D.int x16), some (D.int x20), none]) (s_set (e := D.int) _ (q_f2 (b_p rfl (b_i (q_f2 (b_i (q_on (a_i (q_f2 (b_p rfl (b_p rfl op_ixL))) fun x17 => (a_0 (rf_ok rfl)))) fun x18 => (b_p rfl op_mod))) fun x19 => op_ixL))) fun _ => rfl) fun x20 =>
  (t_seq fin_L (fun x26 : (List (Int × Int)) => [some ((eL D.int) a0), some (D.int a1), some (D.int x3), some ((eL D.int) x14.2), some ((eL D.int) x14.1), some ((eL (eP2 D.int D.int)) x26), some (D.int x16), some (D.int x20), none]) (s_appI (e := (eP2 D.int D.int)) (xs := x15) (fun ys : (List (Int × Int)) => [some ((eL D.int) a0), some (D.int a1), some (D.int x3), some ((eL D.int) x14.2), some ((eL D.int) x14.1), some ((eL (eP2 D.int D.int)) ys), some (D.int x16), some (D.int x20), none]) rfl (q_on (a_i (q_on (a_p rfl (a_i (q_f2 (b_p rfl (b_p rfl op_ixL))) fun x21 => (a_0 (rf_ok rfl))))) fun x23 => (a_i (q_on (a_p rfl (a_i (q_f2 (b_p rfl (b_p rfl op_ixL))) fun x22 => (a_0 (rf_ok rfl))))) fun x24 => (a_0 (rf_ok rfl))))) fun _ => rfl) fun x26 =>
  (t_next rfl))))) fun x28 =>
  (t_seq fin_F (fun x61 : (List (Int × Int)) => [some ((eL D.int) a0), some (D.int a1), some (D.int x3), some ((eL D.int) x14.2), some ((eL D.int) x14.1), some ((eL (eP2 D.int D.int)) x61), none, none, none]) (s_for (ex := D.int) (s0 := x28) (q_R1 (a_p rfl (a_0 k_R1))) (fun x29 : (List (Int × Int)) => [some ((eL D.int) a0), some (D.int a1), some (D.int x3), some ((eL D.int) x14.2), some ((eL D.int) x14.1), some ((eL (eP2 D.int D.int)) x29), none, none, none]) (fun (x29 : (List (Int × Int))) (x30 : Int) => [some ((eL D.int) a0), some (D.int a1), some (D.int x3), some ((eL D.int) x14.2), some ((eL D.int) x14.1), some ((eL (eP2 D.int D.int)) x29), some (D.int x30), none, none]) rfl (fun _ _ => rfl) fun x29 x30 =>
  (t_assoc (t_seq fin_L (fun x35 : Int => [some ((eL D.int) a0), some (D.int a1), some (D.int x3), some ((eL D.int) x14.2), some ((eL D.int) x14.1), some ((eL (eP2 D.int D.int)) x29), some (D.int x30), some (D.int x35), none]) (s_set (e := D.int) _ (q_f2 (b_i (q_on (a_i (q_f2 (b_p rfl (b_i (q_f2 (b_p rfl (b_i (q_f2 (b_p rfl (b_p rfl op_mul))) fun x31 => (rf_ok rfl)))) fun x32 => op_ixL))) fun x33 => (a_0 (rf_ok rfl)))) fun x34 => (b_p rfl op_mod))) fun _ => rfl) fun x35 =>
  (t_assoc (t_seq fin_L (fun x40 : Int => [some ((eL D.int) a0), some (D.int a1), some (D.int x3), some ((eL D.int) x14.2), some ((eL D.int) x14.1), some ((eL (eP2 D.int D.int)) x29), some (D.int x30), some (D.int x35), some (D.int x40)]) (s_set (e := D.int) _ (q_f2 (b_i (q_on (a_i (q_f2 (b_p rfl (b_i (q_f2 (b_p rfl (b_i (q_f2 (b_p rfl (b_p rfl op_mul))) fun x36 => (rf_ok rfl)))) fun x37 => op_ixL))) fun x38 => (a_0 (rf_ok rfl)))) fun x39 => (b_p rfl op_mod))) fun _ => rfl) fun x40 =>
  (t_seq fin_L (fun x59 : (List (Int × Int)) => [some ((eL D.int) a0), some (D.int a1), some (D.int x3), some ((eL D.int) x14.2), some ((eL D.int) x14.1), some ((eL (eP2 D.int D.int)) x59), some (D.int x30), some (D.int x35), some (D.int x40)]) (s_if (o' := (fun s : (List (Int × Int)) => Fl.nx [some ((eL D.int) a0), some (D.int a1), some (D.int x3), some ((eL D.int) x14.2), some ((eL D.int) x14.1), some ((eL (eP2 D.int D.int)) s), some (D.int x30), some (D.int x35), some (D.int x40)])) (t_ifI fin_S (rAndI (q_B (b_iB (q_f2 (b_i (q_f2 (b_p rfl (b_i (q_f2 (b_p rfl (b_i (q_f2 (b_p rfl (b_p rfl op_mul))) fun x53 => (rf_ok rfl)))) fun x54 => op_ixL))) fun x55 => (b_p rfl (rf_ok rfl)))))) (rf_ok (e := fun b => b) (evAnd (evB (ev2 rfl rfl (op_ne (e := D.int) (x := x35) (x' := x40)))) (evNx (evB (ev2 rfl rfl (op_nmemL (e := (eP2 D.int D.int)) (x := ((if x40 < x35 then x40 else x35), (if x40 > x35 then x40 else x35))) (xs := x29)))))))) (t_seq fin_S (fun x57 : (List (Int × Int)) => [some ((eL D.int) a0), some (D.int a1), some (D.int x3), some ((eL D.int) x14.2), some ((eL D.int) x14.1), some ((eL (eP2 D.int D.int)) x57), some (D.int x30), some (D.int x35), some (D.int x40)]) (s_app (e := (eP2 D.int D.int)) (xs := x29) (d := ((if x40 < x35 then x40 else x35), (if x40 > x35 then x40 else x35))) (fun ys : (List (Int × Int)) => [some ((eL D.int) a0), some (D.int a1), some (D.int x3), some ((eL D.int) x14.2), some ((eL D.int) x14.1), some ((eL (eP2 D.int D.int)) ys), some (D.int x30), some (D.int x35), some (D.int x40)]) rfl rfl fun _ => rfl) fun x57 =>
  (t_next rfl))
  (t_nextS (t_next rfl)))) fun x59 =>
  (t_next rfl))))))) fun x61 =>
  (t_end (t_retF (rf_ok (e := (eH2 D.int (eL (eP2 D.int D.int)))) (evOn (evA rfl (evA (evOn (evA rfl rfl) op_sortLP) rfl)) rfl)))))))))))
end Kx
namespace Kx
open PySem PySem.Spec L2 Da
def F_law_at_most : FS := (fRet (f2 dLe (f2 dMul (f2 dIx (fV 0) (fC (.int 0))) (f2 dIx (fV 1) (fC (.int 1)))) (f2 dMul (f2 dIx (fV 1) (fC (.int 0))) (f2 dIx (fV 0) (fC (.int 1))))))
def m_law_at_most : List D → Res D := runF 2 .sh F_law_at_most
def N_law_at_most_piiq_piiq (a0 : (Int × Int)) (a1 : (Int × Int)) : Res Bool :=
  ((mulR a0.1 a1.2).bind fun x1 => ((mulR a1.1 a0.2).bind fun x2 => (Res.ok (decide (x1 ≤ x2)))))
theorem n_law_at_most_piiq_piiq (a0 : (Int × Int)) (a1 : (Int × Int)) : Rf (m_law_at_most [(eP2 D.int D.int) a0, (eP2 D.int D.int) a1]) (N_law_at_most_piiq_piiq a0 a1) D.bl :=
  n_runF ((t_end (t_retF (q_f2 (b_i (q_f2 (b_p rfl (b_p rfl op_mul))) fun x1 => (b_i (q_f2 (b_p rfl (b_p rfl op_mul))) fun x2 => (rf_ok rfl)))))))
end Kx
namespace Kx
open PySem PySem.Spec L2 Da
def F_law_all_routes : FS := (fSeq (fSet 3 (fOn gLstD fA0))
    (fSeq (fSet 4 (fOn gLstD (fA (fOn gTupD (fA (fV 1) fA0)) fA0)))
    (fSeq (fFor (fR1 (fA (fC (.int 100000)) fA0)) (gN 5) (fFgt [5, 6, 7] (fSeq (fIfS (fB (f2 dEq (fSc (fOn (on1 dLen) (fA (fV 4) fA0))) (fC (.int 0)))) fBrk fNext)
    (fSeq (fSetX 6 (fPop0 4))
    (fFgt [7] (fIfS (fB (f2 dEq (f2 dIx (fV 6) (f1 dNeg (fC (.int 1)))) (fV 2))) (fApp 3 (fV 6)) (fFor (fL (f2 dIx (fV 0) (f2 dIx (fV 6) (f1 dNeg (fC (.int 1)))))) (gN 7) (fFgt [7] (fFgt [] (fIfS (fB (f2 dNotIn (fV 7) (fV 6))) (fApp 4 (f2 dAdd (fV 6) (fOn gTupD (fA (fV 7) fA0)))) fNext))))))))))
    (fRet (fOn (on1 dSorted) (fA (fV 3) fA0))))))
def m_law_all_routes : List D → Res D := runF 8 .ow F_law_all_routes
def F_law_menu : FS := (fSeq (fSet 3 (fOn (on1 dLen) (fA (fV 0) fA0)))
    (fSeq (fSet 4 (fOn gLstD fA0))
    (fSeq (fSet 5 (fV 2))
    (fSeq (fFor (fR1 (fA (fV 3) fA0)) (gN 6) (fFgt [6, 7, 8, 9, 10, 11, 12, 13] (fSeq (fSet 7 (fOn gLstD fA0))
    (fSeq (fFor (fR1 (fA (fV 3) fA0)) (gN 8) (fFgt [8, 9, 10, 11, 12, 13] (fSeq (fSet 9 (fOn (chk 3 m_law_all_routes) (fA (fV 0) (fA (fV 6) (fA (fV 8) fA0)))))
    (fSeq (fSet 10 (f2 dIx (fV 1) (f2 dAdd (f2 dAdd (fC (.int 2)) (f2 dMul (fC (.int 4)) (fV 6))) (fV 8))))
    (fSeq (fFgt [12, 13] (fIfS (fB (f2 dEq (f2 dIx (fV 1) (fC (.int 0))) (fC (.int 0)))) (fSet 11 (fCut dCutL (fV 9) fNoI (fSoI (f2 dAdd (fC (.int 1)) (fV 5))))) (fSeq (fSet 11 (fOn gLstD (fA (f2 dIx (fV 9) (f2 dMod (fV 10) (fSc (fOn (on1 dLen) (fA (fV 9) fA0))))) fA0)))
    (fFor (fR1 (fA (f2 dDiv (fV 10) (fC (.int 4))) fA0)) (gN 12) (fFgt [12, 13] (fSeq (fSet 13 (f2 dIx (fV 9) (f2 dMod (f2 dAdd (f2 dAdd (fV 10) (fC (.int 1))) (fV 12)) (fSc (fOn (on1 dLen) (fA (fV 9) fA0))))))
    (fFgt [] (fIfS (fAnd (fB (f2 dGt (fV 5) (f2 dSub (fSc (fOn (on1 dLen) (fA (fV 11) fA0))) (fC (.int 1))))) (fNx (fB (f2 dNotIn (fV 13) (fV 11))))) (fApp 11 (fV 13)) fNext))))))))
    (fSeq (fSet 5 (f2 dSub (fV 5) (f2 dSub (fSc (fOn (on1 dLen) (fA (fV 11) fA0))) (fC (.int 1)))))
    (fApp 7 (fOn (on1 dSorted) (fA (fV 11) fA0)))))))))
    (fApp 4 (fV 7))))))
    (fRet (fV 4))))))
def m_law_menu : List D → Res D := runF 14 .ow F_law_menu
def F_checked_menu : FS := (fSeq (fSet 1 (fOn (chk 1 m_frozen) (fA (fV 1) fA0)))
    (fSeq (fFor (fR1 (fA (f1 (dFld "Net" "size") (fV 0)) fA0)) (gN 2) (fFgt [2, 3, 4, 5] (fFor (fR1 (fA (f1 (dFld "Net" "size") (fV 0)) fA0)) (gN 3) (fFgt [3, 4, 5] (fSeq (fSet 4 (f2 dIx (f2 dIx (fV 1) (fV 2)) (fV 3)))
    (fSeq (fSet 5 (fOn (on1 dAll) (fA (fLc [7] (fL (fV 4)) (gN 7) fYes (fOn (chk 4 m_is_route) (fA (fV 0) (fA (fV 7) (fA (fV 2) (fA (fV 3) fA0)))))) fA0)))
    (fIfS (fOr (fNot (fTr (fV 4))) (fOr (fNot (fTr (fV 5))) (fB (f2 dNe (f1 dLenSetT (fV 4)) (fOn (on1 dLen) (fA (fV 4) fA0)))))) (fRaise "BadRoute" ["sender", "goal"] (fA (fV 2) (fA (fV 3) fA0))) fNext)))))))
    (fRet (fOn (on1 dTuple) (fA (fLc [6] (fL (fV 1)) (gN 6) fYes (fOn (on1 dTuple) (fA (fLc [4] (fL (fV 6)) (gN 4) fYes (fOn (on1 dTuple) (fA (fOn (on1 dSorted) (fA (fV 4) fA0)) fA0))) fA0))) fA0)))))
def m_checked_menu : List D → Res D := runF 8 .sh F_checked_menu
def F_Menu_init : FS := (fSeq (fFld "Menu" "net" 0 (fV 1))
    (fFld "Menu" "rows" 0 (fOn (chk 2 m_checked_menu) (fA (fV 1) (fA (fV 2) fA0)))))
def m_Menu_init : List D → Res D := runI 3 "Menu" F_Menu_init
def F_pairs_of : FS := (fSeq (fSet 1 (f1 (dFld "Net" "size") (f1 (dFld "Menu" "net") (fV 0))))
    (fRet (fLc2 [2, 3] (fR1 (fA (fV 1) fA0)) (gN 2) fYes [3] (fR1 (fA (fV 1) fA0)) (gN 3) fYes (fOn gTupD (fA (fV 2) (fA (fV 3) fA0))))))
def m_pairs_of : List D → Res D := runF 4 .ow F_pairs_of
def F_compare : FS := (fSeq (fSet 2 (f2 dMul (f2 dIx (fV 0) (fC (.int 0))) (f2 dIx (fV 1) (fC (.int 1)))))
    (fSeq (fSet 3 (f2 dMul (f2 dIx (fV 1) (fC (.int 0))) (f2 dIx (fV 0) (fC (.int 1)))))
    (fSeq (fIfS (fB (f2 dLt (fV 2) (fV 3))) (fRet (f1 dNeg (fC (.int 1)))) fNext)
    (fSeq (fIfS (fB (f2 dGt (fV 2) (fV 3))) (fRet (fC (.int 1))) fNext)
    (fRet (fC (.int 0)))))))
def m_compare : List D → Res D := runF 4 .sh F_compare
def F_least_of : FS := (fSeq (fSet 1 (f2 dIx (fV 0) (fC (.int 0))))
    (fSeq (fFor (fL (fV 0)) (gN 2) (fFgt [2] (fFgt [] (fIfS (fB (f2 dLt (fOn (chk 2 m_compare) (fA (fV 2) (fA (fV 1) fA0))) (fC (.int 0)))) (fSet 1 (fV 2)) fNext))))
    (fRet (fV 1))))
def m_least_of : List D → Res D := runF 3 .sh F_least_of
def F_route_worth : FS := (fRet (fOn (chk 1 m_fraction_sum) (fA (fLc [4, 5, 6] (fL (fV 0)) (gT (gsC (gN 4) (gsC (gN 5) (gsC (gN 6) gs0)))) (fAnd (fB (f2 dEq (f2 dIx (fV 5) (fV 1)) (fV 2))) (fTr (fOn (chk 2 m_passes) (fA (fV 3) (fA (fV 6) fA0))))) (fV 4)) fA0)))
def m_route_worth : List D → Res D := runF 7 .sh F_route_worth
def F_mix_worth : FS := (fSeq (fSet 1 (fOn (chk 1 m_frozen) (fA (fV 1) fA0)))
    (fSeq (fSet 2 (fOn gLstD fA0))
    (fSeq (fFor (fL (fOn (chk 1 m_pairs_of) (fA (fV 0) fA0))) (gT (gsC (gN 3) (gsC (gN 4) gs0))) (fFgt [3, 4] (fApp 2 (fOn (chk 1 m_least_of) (fA (fLc [5] (fL (f2 dIx (f2 dIx (f1 (dFld "Menu" "rows") (fV 0)) (fV 3)) (fV 4))) (gN 5) fYes (fOn (chk 4 m_route_worth) (fA (fV 1) (fA (fV 3) (fA (fV 4) (fA (fV 5) fA0)))))) fA0)))))
    (fRet (fOn (chk 1 m_fraction_sum) (fA (fV 2) fA0))))))
def m_mix_worth : List D → Res D := runF 6 .sh F_mix_worth
def F_law_mix_worth : FS := (fSeq (fSet 2 (fOn gTupD (fA (fC (.int 0)) (fA (fC (.int 1)) fA0))))
    (fSeq (fFor (fR1 (fA (fOn (on1 dLen) (fA (fV 0) fA0)) fA0)) (gN 3) (fFgt [3, 4, 5, 6, 7, 8] (fFor (fR1 (fA (fOn (on1 dLen) (fA (fV 0) fA0)) fA0)) (gN 4) (fFgt [4, 5, 6, 7, 8] (fSeq (fSet 5 (fC .non))
    (fSeq (fFor (fL (f2 dIx (f2 dIx (fV 0) (fV 3)) (fV 4))) (gN 6) (fFgt [6, 7, 8] (fSeq (fSet 7 (fOn gTupD (fA (fC (.int 0)) (fA (fC (.int 1)) fA0))))
    (fSeq (fFor (fL (fV 1)) (gN 8) (fFgt [8] (fFgt [] (fIfS (fAnd (fB (f2 dEq (f2 dIx (f2 dIx (fV 8) (fC (.int 1))) (fV 3)) (fV 4))) (fTr (fOn (chk 2 m_law_passes) (fA (fV 6) (fA (f2 dIx (fV 8) (fC (.int 2))) fA0))))) (fSet 7 (fOn (chk 2 m_law_added) (fA (fV 7) (fA (f2 dIx (fV 8) (fC (.int 0))) fA0)))) fNext))))
    (fFgt [] (fIfS (fOr (fB (f1 dIsN (fV 5))) (fTr (fOn (chk 2 m_law_at_most) (fA (fV 7) (fA (fV 5) fA0))))) (fSet 5 (fV 7)) fNext))))))
    (fSet 2 (fOn (chk 2 m_law_added) (fA (fV 2) (fA (fV 5) fA0))))))))))
    (fRet (fV 2))))
def m_law_mix_worth : List D → Res D := runF 9 .sh F_law_mix_worth
def F_law : FS := (fSeq (fSet 1 (fOn (chk 2 m_law_net) (fA (fOn (chk 2 m_law_digits) (fA (fOn (chk 2 m_law_cell) (fA (fV 0) (fA (fC (.int 0)) fA0))) (fA (f2 dAddL (f2 dAddL (fOn gLstD (fA (fC (.int 8)) fA0)) (f2 dRep (fOn gLstD (fA (fC (.int 60)) fA0)) (fC (.int 6)))) (f2 dRep (fOn gLstD (fA (fC (.int 3)) (fA (fC (.int 42)) (fA (fC (.int 42)) fA0)))) (fC (.int 4)))) fA0))) (fA (fC (.int 4)) fA0))))
    (fSeq (fSet 2 (f2 dIx (fV 1) (fC (.int 0))))
    (fSeq (fSet 3 (fOn (chk 2 m_law_near) (fA (fV 2) (fA (f2 dIx (fV 1) (fC (.int 1))) fA0))))
    (fSeq (fSet 4 (fOn (chk 2 m_law_digits) (fA (fOn (chk 2 m_law_cell) (fA (fV 0) (fA (fC (.int 1)) fA0))) (fA (f2 dAddL (fOn gLstD (fA (fC (.int 3)) (fA (fC (.int 11)) fA0))) (f2 dRep (fOn gLstD (fA (fC (.int 12)) fA0)) (fC (.int 16)))) fA0))))
    (fSeq (fSet 5 (fOn (chk 3 m_law_menu) (fA (fV 3) (fA (fV 4) (fA (f2 dIx (fV 4) (fC (.int 1))) fA0)))))
    (fSeq (fSet 6 (fOn (chk 2 m_Menu_init) (fA (fOn (chk 2 m_Net_init) (fA (fV 2) (fA (f2 dIx (fV 1) (fC (.int 1))) fA0))) (fA (fV 5) fA0))))
    (fSeq (fSet 7 (fOn (chk 1 m_law_places) (fA (fV 3) fA0)))
    (fSeq (fSet 8 (fOn (chk 2 m_law_digits) (fA (fOn (chk 2 m_law_cell) (fA (fV 0) (fA (fC (.int 2)) fA0))) (fA (fOn gLstD (fA (fC (.int 13)) (fA (fC (.int 8)) fA0))) fA0))))
    (fSeq (fSet 9 (fOn gLstD fA0))
    (fSeq (fFor (fR1 (fA (f2 dIx (fV 8) (fC (.int 0))) fA0)) (gN 10) (fFgt [10, 13, 14] (fSeq (fSet 13 (fOn (chk 2 m_law_digits) (fA (fOn (chk 2 m_law_cell) (fA (fV 0) (fA (f2 dAdd (fC (.int 3)) (fV 10)) fA0))) (fA (f2 dAddL (fOn gLstD (fA (fSc (fOn (on1 dLen) (fA (fV 7) fA0))) (fA (fC (.int 9)) (fA (fC (.int 6)) (fA (fC (.int 4)) fA0))))) (f2 dRep (fOn gLstD (fA (fC (.int 24)) fA0)) (fC (.int 4)))) fA0))))
    (fSeq (fSet 14 (fOn (chk 2 m_law_fraction) (fA (f2 dSub (f2 dIx (fV 13) (fC (.int 1))) (fC (.int 2))) (fA (f2 dIx (fOn gLstD (fA (fC (.int 1)) (fA (fC (.int 2)) (fA (fC (.int 3)) (fA (fC (.int 5)) (fA (fC (.int 7)) (fA (fC (.int 12)) fA0))))))) (f2 dIx (fV 13) (fC (.int 2)))) fA0))))
    (fSeq (fApp 9 (fOn gTupD (fA (fV 14) (fA (fOn (chk 2 m_law_day) (fA (fV 2) (fA (fCut dCutL (fV 13) (fSoI (fC (.int 4))) fNoI) fA0))) (fA (f2 dIx (fV 7) (f2 dIx (fV 13) (fC (.int 0)))) fA0)))))
    (fFgt [] (fIfS (fB (f2 dEq (f2 dIx (fV 13) (fC (.int 3))) (fC (.int 0)))) (fApp 9 (f2 dIx (fV 9) (fC (.int 0)))) fNext)))))))
    (fSeq (fFgt [] (fIfS (fB (f2 dEq (f2 dIx (fV 8) (fC (.int 1))) (fC (.int 0)))) (fSet 9 (f2 dRep (fV 9) (fC (.int 12)))) fNext))
    (fSeq (fSet 11 (fLc [15] (fL (fV 9)) (gN 15) fYes (fOn gLstD (fA (fOn (on1 dList) (fA (f2 dIx (fV 15) (fC (.int 0))) fA0)) (fA (fOn (on1 dList) (fA (f2 dIx (fV 15) (fC (.int 1))) fA0)) (fA (fOn (on1 dList) (fA (f2 dIx (fV 15) (fC (.int 2))) fA0)) fA0))))))
    (fSeq (fSet 12 (fLc [15] (fL (fV 9)) (gN 15) fYes (fOn gLstD (fA (fOn (on1 dList) (fA (f2 dIx (fV 15) (fC (.int 0))) fA0)) (fA (fOn (on1 dList) (fA (f2 dIx (fV 15) (fC (.int 1))) fA0)) (fA (fOn (on1 dList) (fA (f2 dIx (fV 15) (fC (.int 2))) fA0)) fA0))))))
    (fSeq (fIfS (fOr (fNot (fNx (fTr (fOn (chk 2 m_law_same) (fA (fOn (chk 2 m_mix_worth) (fA (fV 6) (fA (fV 11) fA0))) (fA (fOn (chk 2 m_law_mix_worth) (fA (fV 5) (fA (fV 9) fA0))) fA0)))))) (fNx (fB (f2 dNe (fV 11) (fV 12))))) (fRet (fC (.bl false))) fNext)
    (fRet (fOn (chk 2 m_law_same) (fA (fOn (chk 2 m_mix_worth) (fA (fV 6) (fA (fOn gLstD fA0) fA0))) (fA (fOn gTupD (fA (fC (.int 0)) (fA (fC (.int 1)) fA0))) fA0))))))))))))))))))
def m_law : List D → Res D := runF 16 .sh F_law
def N_law_all_routes_lli_i_i (a0 : (List (List Int))) (a1 : Int) (a2 : Int) : Res (List (List Int)) :=
  (((rngR 100000).bind fun x50 => ((forC (σ := ((List (List Int)) × (List (List Int)))) (β := Unit) (fun x1 x2 => (if (decide ((x1.2.length : Int) = 0)) = true then Res.ok (.out (x1.1, x1.2)) else
  ((nx (pop0R x1.2)).bind fun x3 =>
  ((((ixR x3.1 (-1)).bind fun x34 => (Res.ok (decide (x34 = a2)))).bind fun x48 => if x48 = true then ((appR x1.1 x3.1).bind fun x35 =>
  Res.ok (x35, x3.2)) else
  ((((ixR x3.1 (-1)).bind fun x36 => (ixR a0 x36)).bind fun x46 => (forR (σ := (List (List Int))) (fun x37 x38 => ((if (!decide (x38 ∈ x3.1)) = true then (((catR x3.1 [x38]).bind fun x43 => appR x37 x43).bind fun x44 =>
  Res.ok x44) else
  Res.ok x37).bind fun x45 =>
  Res.ok x45)) x46 x3.2)).bind fun x47 =>
  Res.ok (x1.1, x47))).bind fun x49 =>
  Res.ok (.go (x49.1, x49.2)))))) x50 ([], [[a1]])).bind (ctlS (β := Unit)))).bind fun x51 =>
  (sortTR x51.1))
theorem n_law_all_routes_lli_i_i (a0 : (List (List Int))) (a1 : Int) (a2 : Int) : Rf (m_law_all_routes [(eL (eL D.int)) a0, D.int a1, D.int a2]) (N_law_all_routes_lli_i_i a0 a1 a2) (eL (eT D.int)) :=
  n_runF ((t_seqp [some ((eL (eL D.int)) a0), some (D.int a1), some (D.int a2), some ((eL (eT D.int)) []), none, none, none, none] (set_p rfl rfl) (t_seqp [some ((eL (eL D.int)) a0), some (D.int a1), some (D.int a2), some ((eL (eT D.int)) []), some ((eL (eT D.int)) [[a1]]), none, none, none] (set_p rfl rfl) (t_seq fin_F (fun x51 : ((List (List Int)) × (List (List Int))) => [some ((eL (eL D.int)) a0), some (D.int a1), some (D.int a2), some ((eL (eT D.int)) x51.1), some ((eL (eT D.int)) x51.2), none, none, none]) (s_forB (ex := D.int) (s0 := ([], [[a1]])) (q_R1 (a_p rfl (a_0 k_R1))) (fun x1 : ((List (List Int)) × (List (List Int))) => [some ((eL (eL D.int)) a0), some (D.int a1), some (D.int a2), some ((eL (eT D.int)) x1.1), some ((eL (eT D.int)) x1.2), none, none, none]) (fun (x1 : ((List (List Int)) × (List (List Int)))) (x2 : Int) => [some ((eL (eL D.int)) a0), some (D.int a1), some (D.int a2), some ((eL (eT D.int)) x1.1), some ((eL (eT D.int)) x1.2), some (D.int x2), none, none]) rfl (fun _ _ => rfl) fun x1 x2 =>
  (t_assoc (t_if (evB (ev2 (evSc (evOn (evA rfl rfl) op_lenL) rfl) rfl (op_eq (e := D.int) (x := (x1.2.length : Int)) (x' := 0)))) (t_brk rfl)
  (t_nextS (t_assoc (t_seq fin_L (fun x3 : ((List Int) × (List (List Int))) => [some ((eL (eL D.int)) a0), some (D.int a1), some (D.int a2), some ((eL (eT D.int)) x1.1), some ((eL (eT D.int)) x3.2), some (D.int x2), some ((eT D.int) x3.1), none]) (s_setX (fun v : ((List Int) × (List (List Int))) => [some ((eL (eL D.int)) a0), some (D.int a1), some (D.int a2), some ((eL (eT D.int)) x1.1), some ((eL (eT D.int)) v.2), some (D.int x2), some ((eT D.int) v.1), none]) (x_pop0 (e := (eT D.int)) (xs := x1.2) (fun ys : (List (List Int)) => [some ((eL (eL D.int)) a0), some (D.int a1), some (D.int a2), some ((eL (eT D.int)) x1.1), some ((eL (eT D.int)) ys), some (D.int x2), none, none]) rfl fun _ => rfl) fun _ => rfl) fun x3 =>
  (t_seq fin_L (fun x49 : ((List (List Int)) × (List (List Int))) => [some ((eL (eL D.int)) a0), some (D.int a1), some (D.int a2), some ((eL (eT D.int)) x49.1), some ((eL (eT D.int)) x49.2), some (D.int x2), some ((eT D.int) x3.1), none]) (s_if (o' := (fun s : ((List (List Int)) × (List (List Int))) => Fl.nx [some ((eL (eL D.int)) a0), some (D.int a1), some (D.int a2), some ((eL (eT D.int)) s.1), some ((eL (eT D.int)) s.2), some (D.int x2), some ((eT D.int) x3.1), none])) (t_ifI fin_S (q_B (b_iB (q_f2 (b_i (q_f2 (b_p rfl (b_p rfl op_ixT))) fun x34 => (b_p rfl (rf_ok (op_eq (e := D.int) (x := x34) (x' := a2)))))))) (t_seq fin_S (fun x35 : (List (List Int)) => [some ((eL (eL D.int)) a0), some (D.int a1), some (D.int a2), some ((eL (eT D.int)) x35), some ((eL (eT D.int)) x3.2), some (D.int x2), some ((eT D.int) x3.1), none]) (s_app (e := (eT D.int)) (xs := x1.1) (d := x3.1) (fun ys : (List (List Int)) => [some ((eL (eL D.int)) a0), some (D.int a1), some (D.int a2), some ((eL (eT D.int)) ys), some ((eL (eT D.int)) x3.2), some (D.int x2), some ((eT D.int) x3.1), none]) rfl rfl fun _ => rfl) fun x35 =>
  (t_next rfl))
  (t_seq fin_S (fun x47 : (List (List Int)) => [some ((eL (eL D.int)) a0), some (D.int a1), some (D.int a2), some ((eL (eT D.int)) x1.1), some ((eL (eT D.int)) x47), some (D.int x2), some ((eT D.int) x3.1), none]) (s_for (ex := D.int) (s0 := x3.2) (q_L (b_iL (q := (eL D.int)) (e := D.int) (q_f2 (b_p rfl (b_i (q_f2 (b_p rfl (b_p rfl op_ixT))) fun x36 => op_ixL))) fun _ => rfl)) (fun x37 : (List (List Int)) => [some ((eL (eL D.int)) a0), some (D.int a1), some (D.int a2), some ((eL (eT D.int)) x1.1), some ((eL (eT D.int)) x37), some (D.int x2), some ((eT D.int) x3.1), none]) (fun (x37 : (List (List Int))) (x38 : Int) => [some ((eL (eL D.int)) a0), some (D.int a1), some (D.int a2), some ((eL (eT D.int)) x1.1), some ((eL (eT D.int)) x37), some (D.int x2), some ((eT D.int) x3.1), some (D.int x38)]) rfl (fun _ _ => rfl) fun x37 x38 =>
  (t_seq fin_L (fun x45 : (List (List Int)) => [some ((eL (eL D.int)) a0), some (D.int a1), some (D.int a2), some ((eL (eT D.int)) x1.1), some ((eL (eT D.int)) x45), some (D.int x2), some ((eT D.int) x3.1), some (D.int x38)]) (s_if (o' := (fun s : (List (List Int)) => Fl.nx [some ((eL (eL D.int)) a0), some (D.int a1), some (D.int a2), some ((eL (eT D.int)) x1.1), some ((eL (eT D.int)) s), some (D.int x2), some ((eT D.int) x3.1), some (D.int x38)])) (t_if (evB (ev2 rfl rfl (op_nmemT (e := D.int) (x := x38) (xs := x3.1)))) (t_seq fin_S (fun x44 : (List (List Int)) => [some ((eL (eL D.int)) a0), some (D.int a1), some (D.int a2), some ((eL (eT D.int)) x1.1), some ((eL (eT D.int)) x44), some (D.int x2), some ((eT D.int) x3.1), some (D.int x38)]) (s_appI (e := (eT D.int)) (xs := x37) (fun ys : (List (List Int)) => [some ((eL (eL D.int)) a0), some (D.int a1), some (D.int a2), some ((eL (eT D.int)) x1.1), some ((eL (eT D.int)) ys), some (D.int x2), some ((eT D.int) x3.1), some (D.int x38)]) rfl (q_f2 (b_p rfl (b_p rfl (op_catT (e := D.int))))) fun _ => rfl) fun x44 =>
  (t_next rfl))
  (t_nextS (t_next rfl)))) fun x45 =>
  (t_next rfl))) fun x47 =>
  (t_next rfl)))) fun x49 =>
  (t_next rfl)))))))) fun x51 =>
  (t_end (t_retF (q_on (a_p rfl (a_0 op_sortLT)))))))))
def N_law_menu_lli_li_i (a0 : (List (List Int))) (a1 : (List Int)) (a2 : Int) : Res (List (List (List (List Int)))) :=
  (((rngR (a0.length : Int)).bind fun x61 => (forR (σ := ((List (List (List (List Int)))) × Int)) (fun x1 x2 => (((rngR (a0.length : Int)).bind fun x58 => (forR (σ := (Int × (List (List (List Int))))) (fun x3 x4 => ((N_law_all_routes_lli_i_i a0 x2 x4).bind fun x5 =>
  (((((mulR 4 x2).bind fun x6 => (Res.ok (2 + x6))).bind fun x7 => (Res.ok (x7 + x4))).bind fun x8 => (ixR a1 x8)).bind fun x9 =>
  ((((ixR a1 0).bind fun x40 => (Res.ok (decide (x40 = 0)))).bind fun x54 => if x54 = true then Res.ok (cutN x5 none (some (1 + x3.1))) else
  ((((modR x9 (x5.length : Int)).bind fun x41 => (ixR x5 x41)).bind fun x42 => (Res.ok [x42])).bind fun x43 =>
  (((rngR (x9 / 4)).bind fun x52 => (forR (σ := (List (List Int))) (fun x44 x45 => (((modR ((x9 + 1) + x45) (x5.length : Int)).bind fun x46 => (ixR x5 x46)).bind fun x47 =>
  ((if ((decide (((x44.length : Int) - 1) < x3.1)) && (!hasB x47 x44)) = true then ((appR x44 x47).bind fun x50 =>
  Res.ok x50) else
  Res.ok x44).bind fun x51 =>
  Res.ok x51))) x52 x43)).bind fun x53 =>
  Res.ok x53))).bind fun x55 =>
  (((sortTR x55).bind fun x56 => appR x3.2 x56).bind fun x57 =>
  Res.ok ((x3.1 - ((x55.length : Int) - 1)), x57)))))) x58 (x1.2, []))).bind fun x59 =>
  ((appR x1.1 x59.2).bind fun x60 =>
  Res.ok (x60, x59.1)))) x61 ([], a2))).bind fun x62 =>
  (Res.ok x62.1))
theorem n_law_menu_lli_li_i (a0 : (List (List Int))) (a1 : (List Int)) (a2 : Int) : Rf (m_law_menu [(eL (eL D.int)) a0, (eL D.int) a1, D.int a2]) (N_law_menu_lli_li_i a0 a1 a2) (eL (eL (eL (eT D.int)))) :=
  n_runF ((t_seqp [some ((eL (eL D.int)) a0), some ((eL D.int) a1), some (D.int a2), some (D.int (a0.length : Int)), none, none, none, none, none, none, none, none, none, none] (set_p (evOn (evA rfl rfl) op_lenL) rfl) (t_seqp [some ((eL (eL D.int)) a0), some ((eL D.int) a1), some (D.int a2), some (D.int (a0.length : Int)), some ((eL (eL (eL (eT D.int)))) []), none, none, none, none, none, none, none, none, none] (set_p rfl rfl) (t_seqp [some ((eL (eL D.int)) a0), some ((eL D.int) a1), some (D.int a2), some (D.int (a0.length : Int)), some ((eL (eL (eL (eT D.int)))) []), some (D.int a2), none, none, none, none, none, none, none, none] (set_p rfl rfl) (t_seq fin_F (fun x62 : ((List (List (List (List Int)))) × Int) => [some ((eL (eL D.int)) a0), some ((eL D.int) a1), some (D.int a2), some (D.int (a0.length : Int)), some ((eL (eL (eL (eT D.int)))) x62.1), some (D.int x62.2), none, none, none, none, none, none, none, none]) (s_for (ex := D.int) (s0 := ([], a2)) (q_R1 (a_p rfl (a_0 k_R1))) (fun x1 : ((List (List (List (List Int)))) × Int) => [some ((eL (eL D.int)) a0), some ((eL D.int) a1), some (D.int a2), some (D.int (a0.length : Int)), some ((eL (eL (eL (eT D.int)))) x1.1), some (D.int x1.2), none, none, none, none, none, none, none, none]) (fun (x1 : ((List (List (List (List Int)))) × Int)) (x2 : Int) => [some ((eL (eL D.int)) a0), some ((eL D.int) a1), some (D.int a2), some (D.int (a0.length : Int)), some ((eL (eL (eL (eT D.int)))) x1.1), some (D.int x1.2), some (D.int x2), none, none, none, none, none, none, none]) rfl (fun _ _ => rfl) fun x1 x2 =>
  (t_assoc (t_seqp [some ((eL (eL D.int)) a0), some ((eL D.int) a1), some (D.int a2), some (D.int (a0.length : Int)), some ((eL (eL (eL (eT D.int)))) x1.1), some (D.int x1.2), some (D.int x2), some ((eL (eL (eT D.int))) []), none, none, none, none, none, none] (set_p rfl rfl) (t_assoc (t_seq fin_L (fun x59 : (Int × (List (List (List Int)))) => [some ((eL (eL D.int)) a0), some ((eL D.int) a1), some (D.int a2), some (D.int (a0.length : Int)), some ((eL (eL (eL (eT D.int)))) x1.1), some (D.int x59.1), some (D.int x2), some ((eL (eL (eT D.int))) x59.2), none, none, none, none, none, none]) (s_for (ex := D.int) (s0 := (x1.2, [])) (q_R1 (a_p rfl (a_0 k_R1))) (fun x3 : (Int × (List (List (List Int)))) => [some ((eL (eL D.int)) a0), some ((eL D.int) a1), some (D.int a2), some (D.int (a0.length : Int)), some ((eL (eL (eL (eT D.int)))) x1.1), some (D.int x3.1), some (D.int x2), some ((eL (eL (eT D.int))) x3.2), none, none, none, none, none, none]) (fun (x3 : (Int × (List (List (List Int))))) (x4 : Int) => [some ((eL (eL D.int)) a0), some ((eL D.int) a1), some (D.int a2), some (D.int (a0.length : Int)), some ((eL (eL (eL (eT D.int)))) x1.1), some (D.int x3.1), some (D.int x2), some ((eL (eL (eT D.int))) x3.2), some (D.int x4), none, none, none, none, none]) rfl (fun _ _ => rfl) fun x3 x4 =>
  (t_assoc (t_seq fin_L (fun x5 : (List (List Int)) => [some ((eL (eL D.int)) a0), some ((eL D.int) a1), some (D.int a2), some (D.int (a0.length : Int)), some ((eL (eL (eL (eT D.int)))) x1.1), some (D.int x3.1), some (D.int x2), some ((eL (eL (eT D.int))) x3.2), some (D.int x4), some ((eL (eT D.int)) x5), none, none, none, none]) (s_set (e := (eL (eT D.int))) _ (q_on (a_p rfl (a_p rfl (a_p rfl (a_0 (rf_chk (n_law_all_routes_lli_i_i a0 x2 x4) rfl)))))) fun _ => rfl) fun x5 =>
  (t_assoc (t_seq fin_L (fun x9 : Int => [some ((eL (eL D.int)) a0), some ((eL D.int) a1), some (D.int a2), some (D.int (a0.length : Int)), some ((eL (eL (eL (eT D.int)))) x1.1), some (D.int x3.1), some (D.int x2), some ((eL (eL (eT D.int))) x3.2), some (D.int x4), some ((eL (eT D.int)) x5), some (D.int x9), none, none, none]) (s_set (e := D.int) _ (q_f2 (b_p rfl (b_i (q_f2 (b_i (q_f2 (b_p rfl (b_i (q_f2 (b_p rfl (b_p rfl op_mul))) fun x6 => (rf_ok rfl)))) fun x7 => (b_p rfl (rf_ok rfl)))) fun x8 => op_ixL))) fun _ => rfl) fun x9 =>
  (t_assoc (t_seq fin_L (fun x55 : (List (List Int)) => [some ((eL (eL D.int)) a0), some ((eL D.int) a1), some (D.int a2), some (D.int (a0.length : Int)), some ((eL (eL (eL (eT D.int)))) x1.1), some (D.int x3.1), some (D.int x2), some ((eL (eL (eT D.int))) x3.2), some (D.int x4), some ((eL (eT D.int)) x5), some (D.int x9), some ((eL (eT D.int)) x55), none, none]) (s_if (o' := (fun s : (List (List Int)) => Fl.nx [some ((eL (eL D.int)) a0), some ((eL D.int) a1), some (D.int a2), some (D.int (a0.length : Int)), some ((eL (eL (eL (eT D.int)))) x1.1), some (D.int x3.1), some (D.int x2), some ((eL (eL (eT D.int))) x3.2), some (D.int x4), some ((eL (eT D.int)) x5), some (D.int x9), some ((eL (eT D.int)) s), none, none])) (t_ifI fin_S (q_B (b_iB (q_f2 (b_i (q_f2 (b_p rfl (b_p rfl op_ixL))) fun x40 => (b_p rfl (rf_ok (op_eq (e := D.int) (x := x40) (x' := 0)))))))) (t_seqp [some ((eL (eL D.int)) a0), some ((eL D.int) a1), some (D.int a2), some (D.int (a0.length : Int)), some ((eL (eL (eL (eT D.int)))) x1.1), some (D.int x3.1), some (D.int x2), some ((eL (eL (eT D.int))) x3.2), some (D.int x4), some ((eL (eT D.int)) x5), some (D.int x9), some ((eL (eT D.int)) (cutN x5 none (some (1 + x3.1)))), none, none] (set_p (evCut rfl rfl rfl op_cutLL) rfl) (t_next rfl))
  (t_assoc (t_seq fin_S (fun x43 : (List (List Int)) => [some ((eL (eL D.int)) a0), some ((eL D.int) a1), some (D.int a2), some (D.int (a0.length : Int)), some ((eL (eL (eL (eT D.int)))) x1.1), some (D.int x3.1), some (D.int x2), some ((eL (eL (eT D.int))) x3.2), some (D.int x4), some ((eL (eT D.int)) x5), some (D.int x9), some ((eL (eT D.int)) x43), none, none]) (s_set (e := (eL (eT D.int))) _ (q_on (a_i (q_f2 (b_p rfl (b_i (q_f2 (b_p rfl (b_p (evSc (evOn (evA rfl rfl) op_lenL) rfl) op_mod))) fun x41 => op_ixL))) fun x42 => (a_0 (rf_ok rfl)))) fun _ => rfl) fun x43 =>
  (t_seq fin_S (fun x53 : (List (List Int)) => [some ((eL (eL D.int)) a0), some ((eL D.int) a1), some (D.int a2), some (D.int (a0.length : Int)), some ((eL (eL (eL (eT D.int)))) x1.1), some (D.int x3.1), some (D.int x2), some ((eL (eL (eT D.int))) x3.2), some (D.int x4), some ((eL (eT D.int)) x5), some (D.int x9), some ((eL (eT D.int)) x53), none, none]) (s_for (ex := D.int) (s0 := x43) (q_R1 (a_p (ev2 rfl rfl (op_divp (by decide) (by decide))) (a_0 k_R1))) (fun x44 : (List (List Int)) => [some ((eL (eL D.int)) a0), some ((eL D.int) a1), some (D.int a2), some (D.int (a0.length : Int)), some ((eL (eL (eL (eT D.int)))) x1.1), some (D.int x3.1), some (D.int x2), some ((eL (eL (eT D.int))) x3.2), some (D.int x4), some ((eL (eT D.int)) x5), some (D.int x9), some ((eL (eT D.int)) x44), none, none]) (fun (x44 : (List (List Int))) (x45 : Int) => [some ((eL (eL D.int)) a0), some ((eL D.int) a1), some (D.int a2), some (D.int (a0.length : Int)), some ((eL (eL (eL (eT D.int)))) x1.1), some (D.int x3.1), some (D.int x2), some ((eL (eL (eT D.int))) x3.2), some (D.int x4), some ((eL (eT D.int)) x5), some (D.int x9), some ((eL (eT D.int)) x44), some (D.int x45), none]) rfl (fun _ _ => rfl) fun x44 x45 =>
  (t_assoc (t_seq fin_L (fun x47 : (List Int) => [some ((eL (eL D.int)) a0), some ((eL D.int) a1), some (D.int a2), some (D.int (a0.length : Int)), some ((eL (eL (eL (eT D.int)))) x1.1), some (D.int x3.1), some (D.int x2), some ((eL (eL (eT D.int))) x3.2), some (D.int x4), some ((eL (eT D.int)) x5), some (D.int x9), some ((eL (eT D.int)) x44), some (D.int x45), some ((eT D.int) x47)]) (s_set (e := (eT D.int)) _ (q_f2 (b_p rfl (b_i (q_f2 (b_p rfl (b_p (evSc (evOn (evA rfl rfl) op_lenL) rfl) op_mod))) fun x46 => op_ixL))) fun _ => rfl) fun x47 =>
  (t_seq fin_L (fun x51 : (List (List Int)) => [some ((eL (eL D.int)) a0), some ((eL D.int) a1), some (D.int a2), some (D.int (a0.length : Int)), some ((eL (eL (eL (eT D.int)))) x1.1), some (D.int x3.1), some (D.int x2), some ((eL (eL (eT D.int))) x3.2), some (D.int x4), some ((eL (eT D.int)) x5), some (D.int x9), some ((eL (eT D.int)) x51), some (D.int x45), some ((eT D.int) x47)]) (s_if (o' := (fun s : (List (List Int)) => Fl.nx [some ((eL (eL D.int)) a0), some ((eL D.int) a1), some (D.int a2), some (D.int (a0.length : Int)), some ((eL (eL (eL (eT D.int)))) x1.1), some (D.int x3.1), some (D.int x2), some ((eL (eL (eT D.int))) x3.2), some (D.int x4), some ((eL (eT D.int)) x5), some (D.int x9), some ((eL (eT D.int)) s), some (D.int x45), some ((eT D.int) x47)])) (t_if (evAnd (evB (ev2 rfl (ev2 (evSc (evOn (evA rfl rfl) op_lenL) rfl) rfl rfl) rfl)) (evNx (evB (ev2 rfl rfl (op_nmemL (e := (eT D.int)) (x := x47) (xs := x44)))))) (t_seq fin_S (fun x50 : (List (List Int)) => [some ((eL (eL D.int)) a0), some ((eL D.int) a1), some (D.int a2), some (D.int (a0.length : Int)), some ((eL (eL (eL (eT D.int)))) x1.1), some (D.int x3.1), some (D.int x2), some ((eL (eL (eT D.int))) x3.2), some (D.int x4), some ((eL (eT D.int)) x5), some (D.int x9), some ((eL (eT D.int)) x50), some (D.int x45), some ((eT D.int) x47)]) (s_app (e := (eT D.int)) (xs := x44) (d := x47) (fun ys : (List (List Int)) => [some ((eL (eL D.int)) a0), some ((eL D.int) a1), some (D.int a2), some (D.int (a0.length : Int)), some ((eL (eL (eL (eT D.int)))) x1.1), some (D.int x3.1), some (D.int x2), some ((eL (eL (eT D.int))) x3.2), some (D.int x4), some ((eL (eT D.int)) x5), some (D.int x9), some ((eL (eT D.int)) ys), some (D.int x45), some ((eT D.int) x47)]) rfl rfl fun _ => rfl) fun x50 =>
  (t_next rfl))
  (t_nextS (t_next rfl)))) fun x51 =>
  (t_next rfl))))) fun x53 =>
  (t_next rfl)))))) fun x55 =>
  (t_assoc (t_seqp [some ((eL (eL D.int)) a0), some ((eL D.int) a1), some (D.int a2), some (D.int (a0.length : Int)), some ((eL (eL (eL (eT D.int)))) x1.1), some (D.int (x3.1 - ((x55.length : Int) - 1))), some (D.int x2), some ((eL (eL (eT D.int))) x3.2), some (D.int x4), some ((eL (eT D.int)) x5), some (D.int x9), some ((eL (eT D.int)) x55), none, none] (set_p (ev2 rfl (ev2 (evSc (evOn (evA rfl rfl) op_lenL) rfl) rfl rfl) rfl) rfl) (t_seq fin_L (fun x57 : (List (List (List Int))) => [some ((eL (eL D.int)) a0), some ((eL D.int) a1), some (D.int a2), some (D.int (a0.length : Int)), some ((eL (eL (eL (eT D.int)))) x1.1), some (D.int (x3.1 - ((x55.length : Int) - 1))), some (D.int x2), some ((eL (eL (eT D.int))) x57), some (D.int x4), some ((eL (eT D.int)) x5), some (D.int x9), some ((eL (eT D.int)) x55), none, none]) (s_appI (e := (eL (eT D.int))) (xs := x3.2) (fun ys : (List (List (List Int))) => [some ((eL (eL D.int)) a0), some ((eL D.int) a1), some (D.int a2), some (D.int (a0.length : Int)), some ((eL (eL (eL (eT D.int)))) x1.1), some (D.int (x3.1 - ((x55.length : Int) - 1))), some (D.int x2), some ((eL (eL (eT D.int))) ys), some (D.int x4), some ((eL (eT D.int)) x5), some (D.int x9), some ((eL (eT D.int)) x55), none, none]) rfl (q_on (a_p rfl (a_0 op_sortLT))) fun _ => rfl) fun x57 =>
  (t_next rfl))))))))))) fun x59 =>
  (t_seq fin_L (fun x60 : (List (List (List (List Int)))) => [some ((eL (eL D.int)) a0), some ((eL D.int) a1), some (D.int a2), some (D.int (a0.length : Int)), some ((eL (eL (eL (eT D.int)))) x60), some (D.int x59.1), some (D.int x2), some ((eL (eL (eT D.int))) x59.2), none, none, none, none, none, none]) (s_app (e := (eL (eL (eT D.int)))) (xs := x1.1) (d := x59.2) (fun ys : (List (List (List (List Int)))) => [some ((eL (eL D.int)) a0), some ((eL D.int) a1), some (D.int a2), some (D.int (a0.length : Int)), some ((eL (eL (eL (eT D.int)))) ys), some (D.int x59.1), some (D.int x2), some ((eL (eL (eT D.int))) x59.2), none, none, none, none, none, none]) rfl rfl fun _ => rfl) fun x60 =>
  (t_next rfl))))))) fun x62 =>
  (t_end (t_retF (rf_ok (e := (eL (eL (eL (eT D.int))))) rfl))))))))
def N_frozen_lllti (a0 : (List (List (List (List Int))))) : Res (List (List (List (List Int)))) :=
  ((lcR a0 (fun x1 => Res.ok true) (fun x1 => (N_frozen_llti x1))).bind fun x2 => (Res.ok x2))
theorem nr_frozen_lllti (n : Nat) (a0 : (List (List (List (List Int))))) : Rf (r_frozen (n + 5) [(eL (eL (eL (eT D.int)))) a0]) (N_frozen_lllti a0) (eT (eT (eT (eT D.int)))) :=
  n_runF ((t_ifT (evTr (ev1 rfl (isi2_a isTy_list_lst)) rfl) (t_retF (q_on (a_i (rf_lcp (it_L (e := (eL (eL (eT D.int)))) (xs := a0) rfl) (fun x1 : (List (List (List Int))) => [some ((eL (eL (eL (eT D.int)))) a0), some ((eL (eL (eT D.int))) x1)]) (fun _ => rfl) (fun x1 => (rf_ok (v := true) rfl)) (fun x1 => (q_on (a_p rfl (a_0 (rf_chk (nr_frozen_llti (n + 0) x1) rfl)))))) fun x2 => (a_0 (rf_ok rfl)))))))
theorem n_frozen_lllti (a0 : (List (List (List (List Int))))) : Rf (m_frozen [(eL (eL (eL (eT D.int)))) a0]) (N_frozen_lllti a0) (eT (eT (eT (eT D.int)))) := nr_frozen_lllti 1 a0
def N_checked_menu_cNetitpiiqttitpiiqq_lllti (a0 : (Int × (List (Int × Int)) × (List (List Int)) × (List (Int × Int)))) (a1 : (List (List (List (List Int))))) : Res (List (List (List (List Int)))) :=
  ((N_frozen_lllti a1).bind fun x1 =>
  (((rngR a0.1).bind fun x15 => (forR (σ := Unit) (fun x2 x3 => (((rngR a0.1).bind fun x13 => (forR (σ := Unit) (fun x4 x5 => (((ixR x1 x3).bind fun x6 => (ixR x6 x5)).bind fun x7 =>
  (((lcR x7 (fun x8 => Res.ok true) (fun x8 => (N_is_route_cNetitpiiqttitpiiqq_ti_i_i a0 x8 x3 x5))).bind fun x9 => (Res.ok (x9.all id))).bind fun x10 =>
  ((if (!(!x7.isEmpty)) = true then Res.ok true else (if (!x10) = true then Res.ok true else ((lenSetTR x7).bind fun x11 => (Res.ok (!decide (x11 = (x7.length : Int))))))).bind fun x12 => if x12 = true then (Res.ex "BadRoute" [("goal", D.int x5), ("sender", D.int x3)]) else
  Res.ok ())))) x13 ())).bind fun x14 =>
  Res.ok ())) x15 ())).bind fun x16 =>
  ((lcR x1 (fun x17 => Res.ok true) (fun x17 => ((lcR x17 (fun x18 => Res.ok true) (fun x18 => ((sortTR x18).bind fun x19 => (Res.ok x19)))).bind fun x20 => (Res.ok x20)))).bind fun x21 => (Res.ok x21))))
theorem n_checked_menu_cNetitpiiqttitpiiqq_lllti (a0 : (Int × (List (Int × Int)) × (List (List Int)) × (List (Int × Int)))) (a1 : (List (List (List (List Int))))) : Rf (m_checked_menu [(eOb4 "Net" "size" "links" "near" "lane_row" D.int (eT (eP2 D.int D.int)) (eT (eT D.int)) (eT (eP2 D.int D.int))) a0, (eL (eL (eL (eT D.int)))) a1]) (N_checked_menu_cNetitpiiqttitpiiqq_lllti a0 a1) (eT (eT (eT (eT D.int)))) :=
  n_runF ((t_seq fin_F (fun x1 : (List (List (List (List Int)))) => [some ((eOb4 "Net" "size" "links" "near" "lane_row" D.int (eT (eP2 D.int D.int)) (eT (eT D.int)) (eT (eP2 D.int D.int))) a0), some ((eT (eT (eT (eT D.int)))) x1), none, none, none, none, none, none]) (s_set (e := (eT (eT (eT (eT D.int))))) _ (q_on (a_p rfl (a_0 (rf_chk (n_frozen_lllti a1) rfl)))) fun _ => rfl) fun x1 =>
  (t_seq fin_F (fun x16 : Unit => [some ((eOb4 "Net" "size" "links" "near" "lane_row" D.int (eT (eP2 D.int D.int)) (eT (eT D.int)) (eT (eP2 D.int D.int))) a0), some ((eT (eT (eT (eT D.int)))) x1), none, none, none, none, none, none]) (s_for (ex := D.int) (s0 := ()) (q_R1 (a_p (ev1 rfl fld_hit) (a_0 k_R1))) (fun x2 : Unit => [some ((eOb4 "Net" "size" "links" "near" "lane_row" D.int (eT (eP2 D.int D.int)) (eT (eT D.int)) (eT (eP2 D.int D.int))) a0), some ((eT (eT (eT (eT D.int)))) x1), none, none, none, none, none, none]) (fun (x2 : Unit) (x3 : Int) => [some ((eOb4 "Net" "size" "links" "near" "lane_row" D.int (eT (eP2 D.int D.int)) (eT (eT D.int)) (eT (eP2 D.int D.int))) a0), some ((eT (eT (eT (eT D.int)))) x1), some (D.int x3), none, none, none, none, none]) rfl (fun _ _ => rfl) fun x2 x3 =>
  (t_seq fin_L (fun x14 : Unit => [some ((eOb4 "Net" "size" "links" "near" "lane_row" D.int (eT (eP2 D.int D.int)) (eT (eT D.int)) (eT (eP2 D.int D.int))) a0), some ((eT (eT (eT (eT D.int)))) x1), some (D.int x3), none, none, none, none, none]) (s_for (ex := D.int) (s0 := ()) (q_R1 (a_p (ev1 rfl fld_hit) (a_0 k_R1))) (fun x4 : Unit => [some ((eOb4 "Net" "size" "links" "near" "lane_row" D.int (eT (eP2 D.int D.int)) (eT (eT D.int)) (eT (eP2 D.int D.int))) a0), some ((eT (eT (eT (eT D.int)))) x1), some (D.int x3), none, none, none, none, none]) (fun (x4 : Unit) (x5 : Int) => [some ((eOb4 "Net" "size" "links" "near" "lane_row" D.int (eT (eP2 D.int D.int)) (eT (eT D.int)) (eT (eP2 D.int D.int))) a0), some ((eT (eT (eT (eT D.int)))) x1), some (D.int x3), some (D.int x5), none, none, none, none]) rfl (fun _ _ => rfl) fun x4 x5 =>
  (t_assoc (t_seq fin_L (fun x7 : (List (List Int)) => [some ((eOb4 "Net" "size" "links" "near" "lane_row" D.int (eT (eP2 D.int D.int)) (eT (eT D.int)) (eT (eP2 D.int D.int))) a0), some ((eT (eT (eT (eT D.int)))) x1), some (D.int x3), some (D.int x5), some ((eT (eT D.int)) x7), none, none, none]) (s_set (e := (eT (eT D.int))) _ (q_f2 (b_i (q_f2 (b_p rfl (b_p rfl op_ixT))) fun x6 => (b_p rfl op_ixT))) fun _ => rfl) fun x7 =>
  (t_assoc (t_seq fin_L (fun x10 : Bool => [some ((eOb4 "Net" "size" "links" "near" "lane_row" D.int (eT (eP2 D.int D.int)) (eT (eT D.int)) (eT (eP2 D.int D.int))) a0), some ((eT (eT (eT (eT D.int)))) x1), some (D.int x3), some (D.int x5), some ((eT (eT D.int)) x7), some (D.bl x10), none, none]) (s_set (e := D.bl) _ (q_on (a_i (rf_lcp (it_T (e := (eT D.int)) (xs := x7) rfl) (fun x8 : (List Int) => [some ((eOb4 "Net" "size" "links" "near" "lane_row" D.int (eT (eP2 D.int D.int)) (eT (eT D.int)) (eT (eP2 D.int D.int))) a0), some ((eT (eT (eT (eT D.int)))) x1), some (D.int x3), some (D.int x5), some ((eT (eT D.int)) x7), none, none, some ((eT D.int) x8)]) (fun _ => rfl) (fun x8 => (rf_ok (v := true) rfl)) (fun x8 => (q_on (a_p rfl (a_p rfl (a_p rfl (a_p rfl (a_0 (rf_chk (n_is_route_cNetitpiiqttitpiiqq_ti_i_i a0 x8 x3 x5) rfl))))))))) fun x9 => (a_0 (rf_ok op_allL)))) fun _ => rfl) fun x10 =>
  (t_ifI fin_L (rOr (evNot (evTr rfl op_trT)) (rOr rfl (q_B (b_iB (q_f2 (b_i (q_f1 (b_p rfl op_lenSetT)) fun x11 => (b_p (evOn (evA rfl rfl) op_lenT) (rf_ok (op_ne (e := D.int) (x := x11) (x' := (x7.length : Int))))))))))) (t_raise fin_L (a_p rfl (a_p rfl (a_0 (rf_ex rfl)))))
  (t_nextS (t_next rfl)))))))) fun x14 =>
  (t_next rfl))) fun x16 =>
  (t_end (t_retF (q_on (a_i (rf_lcp (it_T (e := (eT (eT (eT D.int)))) (xs := x1) rfl) (fun x17 : (List (List (List Int))) => [some ((eOb4 "Net" "size" "links" "near" "lane_row" D.int (eT (eP2 D.int D.int)) (eT (eT D.int)) (eT (eP2 D.int D.int))) a0), some ((eT (eT (eT (eT D.int)))) x1), none, none, none, none, some ((eT (eT (eT D.int))) x17), none]) (fun _ => rfl) (fun x17 => (rf_ok (v := true) rfl)) (fun x17 => (q_on (a_i (rf_lcp (it_T (e := (eT (eT D.int))) (xs := x17) rfl) (fun x18 : (List (List Int)) => [some ((eOb4 "Net" "size" "links" "near" "lane_row" D.int (eT (eP2 D.int D.int)) (eT (eT D.int)) (eT (eP2 D.int D.int))) a0), some ((eT (eT (eT (eT D.int)))) x1), none, none, some ((eT (eT D.int)) x18), none, some ((eT (eT (eT D.int))) x17), none]) (fun _ => rfl) (fun x18 => (rf_ok (v := true) rfl)) (fun x18 => (q_on (a_i (q_on (a_p rfl (a_0 op_sortTT))) fun x19 => (a_0 (rf_ok rfl)))))) fun x20 => (a_0 (rf_ok rfl)))))) fun x21 => (a_0 (rf_ok rfl)))))))))
def N_Menu_init_cNetitpiiqttitpiiqq_lllti (a0 : (Int × (List (Int × Int)) × (List (List Int)) × (List (Int × Int)))) (a1 : (List (List (List (List Int))))) : Res ((Int × (List (Int × Int)) × (List (List Int)) × (List (Int × Int))) × (List (List (List (List Int))))) :=
  ((Res.ok a0).bind fun x1 =>
  ((N_checked_menu_cNetitpiiqttitpiiqq_lllti a0 a1).bind fun x2 =>
  Res.ok (x1, x2)))
theorem n_Menu_init_cNetitpiiqttitpiiqq_lllti (a0 : (Int × (List (Int × Int)) × (List (List Int)) × (List (Int × Int)))) (a1 : (List (List (List (List Int))))) : Rf (m_Menu_init [(eOb4 "Net" "size" "links" "near" "lane_row" D.int (eT (eP2 D.int D.int)) (eT (eT D.int)) (eT (eP2 D.int D.int))) a0, (eL (eL (eL (eT D.int)))) a1]) (N_Menu_init_cNetitpiiqttitpiiqq_lllti a0 a1) (eOb2 "Menu" "net" "rows" (eOb4 "Net" "size" "links" "near" "lane_row" D.int (eT (eP2 D.int D.int)) (eT (eT D.int)) (eT (eP2 D.int D.int))) (eT (eT (eT (eT D.int))))) :=
  n_runI ((t_seq fin_I (fun x1 : (Int × (List (Int × Int)) × (List (List Int)) × (List (Int × Int))) => [some ((eOb1 "Menu" "net" (eOb4 "Net" "size" "links" "near" "lane_row" D.int (eT (eP2 D.int D.int)) (eT (eT D.int)) (eT (eP2 D.int D.int)))) x1), some ((eOb4 "Net" "size" "links" "near" "lane_row" D.int (eT (eP2 D.int D.int)) (eT (eT D.int)) (eT (eP2 D.int D.int))) a0), some ((eL (eL (eL (eT D.int)))) a1)]) (s_fld (e := (eOb4 "Net" "size" "links" "near" "lane_row" D.int (eT (eP2 D.int D.int)) (eT (eT D.int)) (eT (eP2 D.int D.int)))) (ns := []) (ds := []) (fun v : (Int × (List (Int × Int)) × (List (List Int)) × (List (Int × Int))) => [some ((eOb1 "Menu" "net" (eOb4 "Net" "size" "links" "near" "lane_row" D.int (eT (eP2 D.int D.int)) (eT (eT D.int)) (eT (eP2 D.int D.int)))) v), some ((eOb4 "Net" "size" "links" "near" "lane_row" D.int (eT (eP2 D.int D.int)) (eT (eT D.int)) (eT (eP2 D.int D.int))) a0), some ((eL (eL (eL (eT D.int)))) a1)]) rfl (by decide) (rf_ok (e := (eOb4 "Net" "size" "links" "near" "lane_row" D.int (eT (eP2 D.int D.int)) (eT (eT D.int)) (eT (eP2 D.int D.int)))) rfl) fun _ => rfl) fun x1 =>
  (t_end (t_seq fin_I (fun x2 : (List (List (List (List Int)))) => [some ((eOb2 "Menu" "net" "rows" (eOb4 "Net" "size" "links" "near" "lane_row" D.int (eT (eP2 D.int D.int)) (eT (eT D.int)) (eT (eP2 D.int D.int))) (eT (eT (eT (eT D.int))))) (x1, x2)), some ((eOb4 "Net" "size" "links" "near" "lane_row" D.int (eT (eP2 D.int D.int)) (eT (eT D.int)) (eT (eP2 D.int D.int))) a0), some ((eL (eL (eL (eT D.int)))) a1)]) (s_fld (e := (eT (eT (eT (eT D.int))))) (ns := ["net"]) (ds := [(eOb4 "Net" "size" "links" "near" "lane_row" D.int (eT (eP2 D.int D.int)) (eT (eT D.int)) (eT (eP2 D.int D.int))) x1]) (fun v : (List (List (List (List Int)))) => [some ((eOb2 "Menu" "net" "rows" (eOb4 "Net" "size" "links" "near" "lane_row" D.int (eT (eP2 D.int D.int)) (eT (eT D.int)) (eT (eP2 D.int D.int))) (eT (eT (eT (eT D.int))))) (x1, v)), some ((eOb4 "Net" "size" "links" "near" "lane_row" D.int (eT (eP2 D.int D.int)) (eT (eT D.int)) (eT (eP2 D.int D.int))) a0), some ((eL (eL (eL (eT D.int)))) a1)]) rfl (by decide) (q_on (a_p rfl (a_p rfl (a_0 (rf_chk (n_checked_menu_cNetitpiiqttitpiiqq_lllti a0 a1) rfl))))) fun _ => rfl) fun x2 =>
  (t_next (o := (eOb2 "Menu" "net" "rows" (eOb4 "Net" "size" "links" "near" "lane_row" D.int (eT (eP2 D.int D.int)) (eT (eT D.int)) (eT (eP2 D.int D.int))) (eT (eT (eT (eT D.int)))))) (v := (x1, x2)) rfl)))))
def N_frozen_llli (a0 : (List (List (List Int)))) : Res (List (List (List Int))) :=
  ((lcR a0 (fun x1 => Res.ok true) (fun x1 => (N_frozen_lli x1))).bind fun x2 => (Res.ok x2))
theorem nr_frozen_llli (n : Nat) (a0 : (List (List (List Int)))) : Rf (r_frozen (n + 4) [(eL (eL (eL D.int))) a0]) (N_frozen_llli a0) (eT (eT (eT D.int))) :=
  n_runF ((t_ifT (evTr (ev1 rfl (isi2_a isTy_list_lst)) rfl) (t_retF (q_on (a_i (rf_lcp (it_L (e := (eL (eL D.int))) (xs := a0) rfl) (fun x1 : (List (List Int)) => [some ((eL (eL (eL D.int))) a0), some ((eL (eL D.int)) x1)]) (fun _ => rfl) (fun x1 => (rf_ok (v := true) rfl)) (fun x1 => (q_on (a_p rfl (a_0 (rf_chk (nr_frozen_lli (n + 0) x1) rfl)))))) fun x2 => (a_0 (rf_ok rfl)))))))
theorem n_frozen_llli (a0 : (List (List (List Int)))) : Rf (m_frozen [(eL (eL (eL D.int))) a0]) (N_frozen_llli a0) (eT (eT (eT D.int))) := nr_frozen_llli 2 a0
def N_pairs_of_cMenucNetitpiiqttitpiiqqttttiq (a0 : ((Int × (List (Int × Int)) × (List (List Int)) × (List (Int × Int))) × (List (List (List (List Int)))))) : Res (List (Int × Int)) :=
  ((rngR a0.1.1).bind fun x3 => lc2R x3 (fun x1 => Res.ok true) (fun x1 => (rngR a0.1.1)) (fun x1 x2 => Res.ok true) (fun x1 x2 => (Res.ok (x1, x2))))
theorem n_pairs_of_cMenucNetitpiiqttitpiiqqttttiq (a0 : ((Int × (List (Int × Int)) × (List (List Int)) × (List (Int × Int))) × (List (List (List (List Int)))))) : Rf (m_pairs_of [(eOb2 "Menu" "net" "rows" (eOb4 "Net" "size" "links" "near" "lane_row" D.int (eT (eP2 D.int D.int)) (eT (eT D.int)) (eT (eP2 D.int D.int))) (eT (eT (eT (eT D.int))))) a0]) (N_pairs_of_cMenucNetitpiiqttitpiiqqttttiq a0) (eL (eP2 D.int D.int)) :=
  n_runF ((t_seqp [some ((eOb2 "Menu" "net" "rows" (eOb4 "Net" "size" "links" "near" "lane_row" D.int (eT (eP2 D.int D.int)) (eT (eT D.int)) (eT (eP2 D.int D.int))) (eT (eT (eT (eT D.int))))) a0), some (D.int a0.1.1), none, none] (set_p (ev1 (ev1 rfl fld_hit) fld_hit) rfl) (t_end (t_retF (rf_lc2 (q_R1 (a_p rfl (a_0 k_R1))) (fun x1 : Int => [some ((eOb2 "Menu" "net" "rows" (eOb4 "Net" "size" "links" "near" "lane_row" D.int (eT (eP2 D.int D.int)) (eT (eT D.int)) (eT (eP2 D.int D.int))) (eT (eT (eT (eT D.int))))) a0), some (D.int a0.1.1), some (D.int x1), none]) (fun (x1 : Int) (x2 : Int) => [some ((eOb2 "Menu" "net" "rows" (eOb4 "Net" "size" "links" "near" "lane_row" D.int (eT (eP2 D.int D.int)) (eT (eT D.int)) (eT (eP2 D.int D.int))) (eT (eT (eT (eT D.int))))) a0), some (D.int a0.1.1), some (D.int x1), some (D.int x2)]) (fun _ => rfl) (fun x1 => (rf_ok (v := true) rfl)) (fun x1 => (q_R1 (a_p rfl (a_0 k_R1)))) (fun _ _ => rfl) (fun x1 x2 => (rf_ok (v := true) rfl)) (fun x1 x2 => (rf_ok (e := (eP2 D.int D.int)) rfl)))))))
def N_added_piiq_ti (a0 : (Int × Int)) (a1 : (List Int)) : Res (Int × Int) :=
  ((((ixR a1 1).bind fun x1 => (mulR a0.1 x1)).bind fun x3 => (((ixR a1 0).bind fun x2 => (mulR x2 a0.2)).bind fun x4 => (Res.ok (x3 + x4)))).bind fun x6 => (((ixR a1 1).bind fun x5 => (mulR a0.2 x5)).bind fun x7 => (N_ratio_i_i x6 x7)))
theorem n_added_piiq_ti (a0 : (Int × Int)) (a1 : (List Int)) : Rf (m_added [(eP2 D.int D.int) a0, (eT D.int) a1]) (N_added_piiq_ti a0 a1) (eP2 D.int D.int) :=
  n_runF ((t_end (t_retF (q_on (a_i (q_f2 (b_i (q_f2 (b_p rfl (b_i (q_f2 (b_p rfl (b_p rfl op_ixT))) fun x1 => op_mul))) fun x3 => (b_i (q_f2 (b_i (q_f2 (b_p rfl (b_p rfl op_ixT))) fun x2 => (b_p rfl op_mul))) fun x4 => (rf_ok rfl)))) fun x6 => (a_i (q_f2 (b_p rfl (b_i (q_f2 (b_p rfl (b_p rfl op_ixT))) fun x5 => op_mul))) fun x7 => (a_0 (rf_chk (n_ratio_i_i x6 x7) rfl))))))))
def N_fraction_sum_lti (a0 : (List (List Int))) : Res (Int × Int) :=
  ((forR (σ := (Int × Int)) (fun x1 x2 => ((N_added_piiq_ti x1 x2).bind fun x3 =>
  Res.ok x3)) a0 (0, 1)).bind fun x4 =>
  (Res.ok x4))
theorem n_fraction_sum_lti (a0 : (List (List Int))) : Rf (m_fraction_sum [(eL (eT D.int)) a0]) (N_fraction_sum_lti a0) (eP2 D.int D.int) :=
  n_runF ((t_seqp [some ((eL (eT D.int)) a0), some ((eP2 D.int D.int) (0, 1)), none] (set_p rfl rfl) (t_seq fin_F (fun x4 : (Int × Int) => [some ((eL (eT D.int)) a0), some ((eP2 D.int D.int) x4), none]) (s_forp (ex := (eT D.int)) (s0 := (0, 1)) (it_L (e := (eT D.int)) (xs := a0) rfl) (fun x1 : (Int × Int) => [some ((eL (eT D.int)) a0), some ((eP2 D.int D.int) x1), none]) (fun (x1 : (Int × Int)) (x2 : (List Int)) => [some ((eL (eT D.int)) a0), some ((eP2 D.int D.int) x1), some ((eT D.int) x2)]) rfl (fun _ _ => rfl) fun x1 x2 =>
  (t_seq fin_L (fun x3 : (Int × Int) => [some ((eL (eT D.int)) a0), some ((eP2 D.int D.int) x3), some ((eT D.int) x2)]) (s_set (e := (eP2 D.int D.int)) _ (q_on (a_p rfl (a_p rfl (a_0 (rf_chk (n_added_piiq_ti x1 x2) rfl))))) fun _ => rfl) fun x3 =>
  (t_next rfl))) fun x4 =>
  (t_end (t_retF (rf_ok (e := (eP2 D.int D.int)) rfl))))))
def N_route_worth_ttti_i_i_ti (a0 : (List (List (List Int)))) (a1 : Int) (a2 : Int) (a3 : (List Int)) : Res (Int × Int) :=
  ((((Res.ok a0).bind fun x1 => nx (mapU un3R x1)).bind fun x5 => lcR x5 (fun x2 => (((ixR x2.2.1 a1).bind fun x3 => (Res.ok (decide (x3 = a2)))).bind fun x4 => (if x4 = true then (N_passes_ti_ti a3 x2.2.2) else Res.ok false))) (fun x2 => (Res.ok x2.1))).bind fun x6 => (N_fraction_sum_lti x6))
theorem n_route_worth_ttti_i_i_ti (a0 : (List (List (List Int)))) (a1 : Int) (a2 : Int) (a3 : (List Int)) : Rf (m_route_worth [(eT (eT (eT D.int))) a0, D.int a1, D.int a2, (eT D.int) a3]) (N_route_worth_ttti_i_i_ti a0 a1 a2 a3) (eP2 D.int D.int) :=
  n_runF ((t_end (t_retF (q_on (a_i (rf_lc (rf_cvts (cvt3 (e := (eT D.int))) (rf_ok (e := fun xs : List (List (List Int)) => List.map (eT (eT D.int)) xs) (it_T (e := (eT (eT D.int))) (xs := a0) rfl))) (fun x2 : ((List Int) × (List Int) × (List Int)) => [some ((eT (eT (eT D.int))) a0), some (D.int a1), some (D.int a2), some ((eT D.int) a3), some ((eT D.int) x2.1), some ((eT D.int) x2.2.1), some ((eT D.int) x2.2.2)]) (fun _ => rfl) (fun x2 => (rAndI (q_B (b_iB (q_f2 (b_i (q_f2 (b_p rfl (b_p rfl op_ixT))) fun x3 => (b_p rfl (rf_ok (op_eq (e := D.int) (x := x3) (x' := a2)))))))) (q_Tr (b_iT (q_on (a_p rfl (a_p rfl (a_0 (rf_chk (n_passes_ti_ti a3 x2.2.2) rfl))))))))) (fun x2 => (rf_ok (e := (eT D.int)) rfl))) fun x6 => (a_0 (rf_chk (n_fraction_sum_lti x6) rfl)))))))
def N_compare_piiq_piiq (a0 : (Int × Int)) (a1 : (Int × Int)) : Res Int :=
  ((mulR a0.1 a1.2).bind fun x1 =>
  ((mulR a1.1 a0.2).bind fun x2 =>
  (if (decide (x1 < x2)) = true then (Res.ok (-1)) else
  (if (decide (x2 < x1)) = true then (Res.ok 1) else
  (Res.ok 0)))))
theorem n_compare_piiq_piiq (a0 : (Int × Int)) (a1 : (Int × Int)) : Rf (m_compare [(eP2 D.int D.int) a0, (eP2 D.int D.int) a1]) (N_compare_piiq_piiq a0 a1) D.int :=
  n_runF ((t_seq fin_F (fun x1 : Int => [some ((eP2 D.int D.int) a0), some ((eP2 D.int D.int) a1), some (D.int x1), none]) (s_set (e := D.int) _ (q_f2 (b_p rfl (b_p rfl op_mul))) fun _ => rfl) fun x1 =>
  (t_seq fin_F (fun x2 : Int => [some ((eP2 D.int D.int) a0), some ((eP2 D.int D.int) a1), some (D.int x1), some (D.int x2)]) (s_set (e := D.int) _ (q_f2 (b_p rfl (b_p rfl op_mul))) fun _ => rfl) fun x2 =>
  (t_if rfl (t_retF (rf_ok (e := D.int) rfl))
  (t_nextS (t_if rfl (t_retF (rf_ok (e := D.int) rfl))
  (t_nextS (t_end (t_retF (rf_ok (e := D.int) rfl))))))))))
def N_least_of_lpiiq (a0 : (List (Int × Int))) : Res (Int × Int) :=
  ((ixR a0 0).bind fun x1 =>
  ((forR (σ := (Int × Int)) (fun x2 x3 => ((((N_compare_piiq_piiq x3 x2).bind fun x8 => (Res.ok (decide (x8 < 0)))).bind fun x9 => if x9 = true then Res.ok x3 else
  Res.ok x2).bind fun x10 =>
  Res.ok x10)) a0 x1).bind fun x11 =>
  (Res.ok x11)))
theorem n_least_of_lpiiq (a0 : (List (Int × Int))) : Rf (m_least_of [(eL (eP2 D.int D.int)) a0]) (N_least_of_lpiiq a0) (eP2 D.int D.int) :=
  n_runF ((t_seq fin_F (fun x1 : (Int × Int) => [some ((eL (eP2 D.int D.int)) a0), some ((eP2 D.int D.int) x1), none]) (s_set (e := (eP2 D.int D.int)) _ (q_f2 (b_p rfl (b_p rfl op_ixL))) fun _ => rfl) fun x1 =>
  (t_seq fin_F (fun x11 : (Int × Int) => [some ((eL (eP2 D.int D.int)) a0), some ((eP2 D.int D.int) x11), none]) (s_forp (ex := (eP2 D.int D.int)) (s0 := x1) (it_L (e := (eP2 D.int D.int)) (xs := a0) rfl) (fun x2 : (Int × Int) => [some ((eL (eP2 D.int D.int)) a0), some ((eP2 D.int D.int) x2), none]) (fun (x2 : (Int × Int)) (x3 : (Int × Int)) => [some ((eL (eP2 D.int D.int)) a0), some ((eP2 D.int D.int) x2), some ((eP2 D.int D.int) x3)]) rfl (fun _ _ => rfl) fun x2 x3 =>
  (t_seq fin_L (fun x10 : (Int × Int) => [some ((eL (eP2 D.int D.int)) a0), some ((eP2 D.int D.int) x10), some ((eP2 D.int D.int) x3)]) (s_if (o' := (fun s : (Int × Int) => Fl.nx [some ((eL (eP2 D.int D.int)) a0), some ((eP2 D.int D.int) s), some ((eP2 D.int D.int) x3)])) (t_ifI fin_S (q_B (b_iB (q_f2 (b_i (q_on (a_p rfl (a_p rfl (a_0 (rf_chk (n_compare_piiq_piiq x3 x2) rfl))))) fun x8 => (b_p rfl (rf_ok rfl)))))) (t_seqp [some ((eL (eP2 D.int D.int)) a0), some ((eP2 D.int D.int) x3), some ((eP2 D.int D.int) x3)] (set_p rfl rfl) (t_next rfl))
  (t_nextS (t_next rfl)))) fun x10 =>
  (t_next rfl))) fun x11 =>
  (t_end (t_retF (rf_ok (e := (eP2 D.int D.int)) rfl))))))
def N_mix_worth_cMenucNetitpiiqttitpiiqqttttiq_llli (a0 : ((Int × (List (Int × Int)) × (List (List Int)) × (List (Int × Int))) × (List (List (List (List Int)))))) (a1 : (List (List (List Int)))) : Res (Int × Int) :=
  ((N_frozen_llli a1).bind fun x1 =>
  (((N_pairs_of_cMenucNetitpiiqttitpiiqqttttiq a0).bind fun x11 => (forR (σ := (List (Int × Int))) (fun x2 x3 => ((((((ixR a0.2 x3.1).bind fun x5 => (ixR x5 x3.2)).bind fun x7 => lcR x7 (fun x6 => Res.ok true) (fun x6 => (N_route_worth_ttti_i_i_ti x1 x3.1 x3.2 x6))).bind fun x8 => (N_least_of_lpiiq x8)).bind fun x9 => appR x2 x9).bind fun x10 =>
  Res.ok x10)) x11 [])).bind fun x12 =>
  (N_fraction_sum_lpiiq x12)))
theorem n_mix_worth_cMenucNetitpiiqttitpiiqqttttiq_llli (a0 : ((Int × (List (Int × Int)) × (List (List Int)) × (List (Int × Int))) × (List (List (List (List Int)))))) (a1 : (List (List (List Int)))) : Rf (m_mix_worth [(eOb2 "Menu" "net" "rows" (eOb4 "Net" "size" "links" "near" "lane_row" D.int (eT (eP2 D.int D.int)) (eT (eT D.int)) (eT (eP2 D.int D.int))) (eT (eT (eT (eT D.int))))) a0, (eL (eL (eL D.int))) a1]) (N_mix_worth_cMenucNetitpiiqttitpiiqqttttiq_llli a0 a1) (eP2 D.int D.int) :=
  n_runF ((t_seq fin_F (fun x1 : (List (List (List Int))) => [some ((eOb2 "Menu" "net" "rows" (eOb4 "Net" "size" "links" "near" "lane_row" D.int (eT (eP2 D.int D.int)) (eT (eT D.int)) (eT (eP2 D.int D.int))) (eT (eT (eT (eT D.int))))) a0), some ((eT (eT (eT D.int))) x1), none, none, none, none]) (s_set (e := (eT (eT (eT D.int)))) _ (q_on (a_p rfl (a_0 (rf_chk (n_frozen_llli a1) rfl)))) fun _ => rfl) fun x1 =>
  (t_seqp [some ((eOb2 "Menu" "net" "rows" (eOb4 "Net" "size" "links" "near" "lane_row" D.int (eT (eP2 D.int D.int)) (eT (eT D.int)) (eT (eP2 D.int D.int))) (eT (eT (eT (eT D.int))))) a0), some ((eT (eT (eT D.int))) x1), some ((eL (eP2 D.int D.int)) []), none, none, none] (set_p rfl rfl) (t_seq fin_F (fun x12 : (List (Int × Int)) => [some ((eOb2 "Menu" "net" "rows" (eOb4 "Net" "size" "links" "near" "lane_row" D.int (eT (eP2 D.int D.int)) (eT (eT D.int)) (eT (eP2 D.int D.int))) (eT (eT (eT (eT D.int))))) a0), some ((eT (eT (eT D.int))) x1), some ((eL (eP2 D.int D.int)) x12), none, none, none]) (s_for (ex := (eP2 D.int D.int)) (s0 := []) (q_L (b_iL (q := (eL (eP2 D.int D.int))) (e := (eP2 D.int D.int)) (q_on (a_p rfl (a_0 (rf_chk (n_pairs_of_cMenucNetitpiiqttitpiiqqttttiq a0) rfl)))) fun _ => rfl)) (fun x2 : (List (Int × Int)) => [some ((eOb2 "Menu" "net" "rows" (eOb4 "Net" "size" "links" "near" "lane_row" D.int (eT (eP2 D.int D.int)) (eT (eT D.int)) (eT (eP2 D.int D.int))) (eT (eT (eT (eT D.int))))) a0), some ((eT (eT (eT D.int))) x1), some ((eL (eP2 D.int D.int)) x2), none, none, none]) (fun (x2 : (List (Int × Int))) (x3 : (Int × Int)) => [some ((eOb2 "Menu" "net" "rows" (eOb4 "Net" "size" "links" "near" "lane_row" D.int (eT (eP2 D.int D.int)) (eT (eT D.int)) (eT (eP2 D.int D.int))) (eT (eT (eT (eT D.int))))) a0), some ((eT (eT (eT D.int))) x1), some ((eL (eP2 D.int D.int)) x2), some (D.int x3.1), some (D.int x3.2), none]) rfl (fun _ _ => rfl) fun x2 x3 =>
  (t_seq fin_L (fun x10 : (List (Int × Int)) => [some ((eOb2 "Menu" "net" "rows" (eOb4 "Net" "size" "links" "near" "lane_row" D.int (eT (eP2 D.int D.int)) (eT (eT D.int)) (eT (eP2 D.int D.int))) (eT (eT (eT (eT D.int))))) a0), some ((eT (eT (eT D.int))) x1), some ((eL (eP2 D.int D.int)) x10), some (D.int x3.1), some (D.int x3.2), none]) (s_appI (e := (eP2 D.int D.int)) (xs := x2) (fun ys : (List (Int × Int)) => [some ((eOb2 "Menu" "net" "rows" (eOb4 "Net" "size" "links" "near" "lane_row" D.int (eT (eP2 D.int D.int)) (eT (eT D.int)) (eT (eP2 D.int D.int))) (eT (eT (eT (eT D.int))))) a0), some ((eT (eT (eT D.int))) x1), some ((eL (eP2 D.int D.int)) ys), some (D.int x3.1), some (D.int x3.2), none]) rfl (q_on (a_i (rf_lc (q_L (b_iL (q := (eT (eT D.int))) (e := (eT D.int)) (q_f2 (b_i (q_f2 (b_p (ev1 rfl (fld_skip (by decide) fld_hit)) (b_p rfl op_ixT))) fun x5 => (b_p rfl op_ixT))) fun _ => rfl)) (fun x6 : (List Int) => [some ((eOb2 "Menu" "net" "rows" (eOb4 "Net" "size" "links" "near" "lane_row" D.int (eT (eP2 D.int D.int)) (eT (eT D.int)) (eT (eP2 D.int D.int))) (eT (eT (eT (eT D.int))))) a0), some ((eT (eT (eT D.int))) x1), some ((eL (eP2 D.int D.int)) x2), some (D.int x3.1), some (D.int x3.2), some ((eT D.int) x6)]) (fun _ => rfl) (fun x6 => (rf_ok (v := true) rfl)) (fun x6 => (q_on (a_p rfl (a_p rfl (a_p rfl (a_p rfl (a_0 (rf_chk (n_route_worth_ttti_i_i_ti x1 x3.1 x3.2 x6) rfl))))))))) fun x8 => (a_0 (rf_chk (n_least_of_lpiiq x8) rfl)))) fun _ => rfl) fun x10 =>
  (t_next rfl))) fun x12 =>
  (t_end (t_retF (q_on (a_p rfl (a_0 (rf_chk (n_fraction_sum_lpiiq x12) rfl))))))))))
def N_law_added_piiq_opiiq (a0 : (Int × Int)) (a1 : (Option (Int × Int))) : Res (Int × Int) :=
  (((((unO a1).bind fun x1 => (Res.ok x1.2)).bind fun x2 => (mulR a0.1 x2)).bind fun x5 => ((((unO a1).bind fun x3 => (Res.ok x3.1)).bind fun x4 => (mulR x4 a0.2)).bind fun x6 => (Res.ok (x5 + x6)))).bind fun x9 => ((((unO a1).bind fun x7 => (Res.ok x7.2)).bind fun x8 => (mulR a0.2 x8)).bind fun x10 => (N_law_fraction_i_i x9 x10)))
theorem n_law_added_piiq_opiiq (a0 : (Int × Int)) (a1 : (Option (Int × Int))) : Rf (m_law_added [(eP2 D.int D.int) a0, (eO (eP2 D.int D.int)) a1]) (N_law_added_piiq_opiiq a0 a1) (eP2 D.int D.int) :=
  n_runF ((t_end (t_retF (q_on (a_i (q_f2 (b_i (q_f2 (b_p rfl (b_i (q_f2 (b_i (rf_unO rfl) fun x1 => (b_p rfl (rf_ok rfl)))) fun x2 => op_mul))) fun x5 => (b_i (q_f2 (b_i (q_f2 (b_i (rf_unO rfl) fun x3 => (b_p rfl (rf_ok rfl)))) fun x4 => (b_p rfl op_mul))) fun x6 => (rf_ok rfl)))) fun x9 => (a_i (q_f2 (b_p rfl (b_i (q_f2 (b_i (rf_unO rfl) fun x7 => (b_p rfl (rf_ok rfl)))) fun x8 => op_mul))) fun x10 => (a_0 (rf_chk (n_law_fraction_i_i x9 x10) rfl))))))))
def N_law_mix_worth_lllti_lppiiqtitiq (a0 : (List (List (List (List Int))))) (a1 : (List ((Int × Int) × (List Int) × (List Int)))) : Res (Int × Int) :=
  (((rngR (a0.length : Int)).bind fun x55 => (forR (σ := (Int × Int)) (fun x1 x2 => (((rngR (a0.length : Int)).bind fun x53 => (forR (σ := (Int × Int)) (fun x3 x4 => ((((ixR a0 x2).bind fun x5 => (ixR x5 x4)).bind fun x50 => (forR (σ := (Option (Int × Int))) (fun x25 x26 => ((forR (σ := (Int × Int)) (fun x27 x28 => (((((ixR x28.2.1 x2).bind fun x37 => (Res.ok (decide (x37 = x4)))).bind fun x38 => (if x38 = true then (N_law_passes_ti_ti x26 x28.2.2) else Res.ok false)).bind fun x40 => if x40 = true then ((N_law_added_piiq_piiq x27 x28.1).bind fun x39 =>
  Res.ok x39) else
  Res.ok x27).bind fun x41 =>
  Res.ok x41)) a1 (0, 1)).bind fun x42 =>
  ((optC x25 (Res.ok x42) fun x47 => ((N_law_at_most_piiq_piiq x42 x47).bind fun x48 => if x48 = true then Res.ok x42 else
  Res.ok x47)).bind fun x49 =>
  Res.ok (some x49)))) x50 none)).bind fun x51 =>
  ((N_law_added_piiq_opiiq x3 x51).bind fun x52 =>
  Res.ok x52))) x53 x1)).bind fun x54 =>
  Res.ok x54)) x55 (0, 1))).bind fun x56 =>
  (Res.ok x56))
theorem n_law_mix_worth_lllti_lppiiqtitiq (a0 : (List (List (List (List Int))))) (a1 : (List ((Int × Int) × (List Int) × (List Int)))) : Rf (m_law_mix_worth [(eL (eL (eL (eT D.int)))) a0, (eL (eP3 (eP2 D.int D.int) (eT D.int) (eT D.int))) a1]) (N_law_mix_worth_lllti_lppiiqtitiq a0 a1) (eP2 D.int D.int) :=
  n_runF ((t_seqp [some ((eL (eL (eL (eT D.int)))) a0), some ((eL (eP3 (eP2 D.int D.int) (eT D.int) (eT D.int))) a1), some ((eP2 D.int D.int) (0, 1)), none, none, none, none, none, none] (set_p rfl rfl) (t_seq fin_F (fun x56 : (Int × Int) => [some ((eL (eL (eL (eT D.int)))) a0), some ((eL (eP3 (eP2 D.int D.int) (eT D.int) (eT D.int))) a1), some ((eP2 D.int D.int) x56), none, none, none, none, none, none]) (s_for (ex := D.int) (s0 := (0, 1)) (q_R1 (a_p (evOn (evA rfl rfl) op_lenL) (a_0 k_R1))) (fun x1 : (Int × Int) => [some ((eL (eL (eL (eT D.int)))) a0), some ((eL (eP3 (eP2 D.int D.int) (eT D.int) (eT D.int))) a1), some ((eP2 D.int D.int) x1), none, none, none, none, none, none]) (fun (x1 : (Int × Int)) (x2 : Int) => [some ((eL (eL (eL (eT D.int)))) a0), some ((eL (eP3 (eP2 D.int D.int) (eT D.int) (eT D.int))) a1), some ((eP2 D.int D.int) x1), some (D.int x2), none, none, none, none, none]) rfl (fun _ _ => rfl) fun x1 x2 =>
  (t_seq fin_L (fun x54 : (Int × Int) => [some ((eL (eL (eL (eT D.int)))) a0), some ((eL (eP3 (eP2 D.int D.int) (eT D.int) (eT D.int))) a1), some ((eP2 D.int D.int) x54), some (D.int x2), none, none, none, none, none]) (s_for (ex := D.int) (s0 := x1) (q_R1 (a_p (evOn (evA rfl rfl) op_lenL) (a_0 k_R1))) (fun x3 : (Int × Int) => [some ((eL (eL (eL (eT D.int)))) a0), some ((eL (eP3 (eP2 D.int D.int) (eT D.int) (eT D.int))) a1), some ((eP2 D.int D.int) x3), some (D.int x2), none, none, none, none, none]) (fun (x3 : (Int × Int)) (x4 : Int) => [some ((eL (eL (eL (eT D.int)))) a0), some ((eL (eP3 (eP2 D.int D.int) (eT D.int) (eT D.int))) a1), some ((eP2 D.int D.int) x3), some (D.int x2), some (D.int x4), none, none, none, none]) rfl (fun _ _ => rfl) fun x3 x4 =>
  (t_assoc (t_seqp [some ((eL (eL (eL (eT D.int)))) a0), some ((eL (eP3 (eP2 D.int D.int) (eT D.int) (eT D.int))) a1), some ((eP2 D.int D.int) x3), some (D.int x2), some (D.int x4), some (eN ()), none, none, none] (set_p rfl rfl) (t_assoc (t_seq fin_L (fun x51 : (Option (Int × Int)) => [some ((eL (eL (eL (eT D.int)))) a0), some ((eL (eP3 (eP2 D.int D.int) (eT D.int) (eT D.int))) a1), some ((eP2 D.int D.int) x3), some (D.int x2), some (D.int x4), some ((eO (eP2 D.int D.int)) x51), none, none, none]) (s_for (ex := (eT D.int)) (s0 := none) (q_L (b_iL (q := (eL (eT D.int))) (e := (eT D.int)) (q_f2 (b_i (q_f2 (b_p rfl (b_p rfl op_ixL))) fun x5 => (b_p rfl op_ixL))) fun _ => rfl)) (fun x25 : (Option (Int × Int)) => [some ((eL (eL (eL (eT D.int)))) a0), some ((eL (eP3 (eP2 D.int D.int) (eT D.int) (eT D.int))) a1), some ((eP2 D.int D.int) x3), some (D.int x2), some (D.int x4), some ((eO (eP2 D.int D.int)) x25), none, none, none]) (fun (x25 : (Option (Int × Int))) (x26 : (List Int)) => [some ((eL (eL (eL (eT D.int)))) a0), some ((eL (eP3 (eP2 D.int D.int) (eT D.int) (eT D.int))) a1), some ((eP2 D.int D.int) x3), some (D.int x2), some (D.int x4), some ((eO (eP2 D.int D.int)) x25), some ((eT D.int) x26), none, none]) rfl (fun _ _ => rfl) fun x25 x26 =>
  (t_assoc (t_seqp [some ((eL (eL (eL (eT D.int)))) a0), some ((eL (eP3 (eP2 D.int D.int) (eT D.int) (eT D.int))) a1), some ((eP2 D.int D.int) x3), some (D.int x2), some (D.int x4), some ((eO (eP2 D.int D.int)) x25), some ((eT D.int) x26), some ((eP2 D.int D.int) (0, 1)), none] (set_p rfl rfl) (t_assoc (t_seq fin_L (fun x42 : (Int × Int) => [some ((eL (eL (eL (eT D.int)))) a0), some ((eL (eP3 (eP2 D.int D.int) (eT D.int) (eT D.int))) a1), some ((eP2 D.int D.int) x3), some (D.int x2), some (D.int x4), some ((eO (eP2 D.int D.int)) x25), some ((eT D.int) x26), some ((eP2 D.int D.int) x42), none]) (s_forp (ex := (eP3 (eP2 D.int D.int) (eT D.int) (eT D.int))) (s0 := (0, 1)) (it_L (e := (eP3 (eP2 D.int D.int) (eT D.int) (eT D.int))) (xs := a1) rfl) (fun x27 : (Int × Int) => [some ((eL (eL (eL (eT D.int)))) a0), some ((eL (eP3 (eP2 D.int D.int) (eT D.int) (eT D.int))) a1), some ((eP2 D.int D.int) x3), some (D.int x2), some (D.int x4), some ((eO (eP2 D.int D.int)) x25), some ((eT D.int) x26), some ((eP2 D.int D.int) x27), none]) (fun (x27 : (Int × Int)) (x28 : ((Int × Int) × (List Int) × (List Int))) => [some ((eL (eL (eL (eT D.int)))) a0), some ((eL (eP3 (eP2 D.int D.int) (eT D.int) (eT D.int))) a1), some ((eP2 D.int D.int) x3), some (D.int x2), some (D.int x4), some ((eO (eP2 D.int D.int)) x25), some ((eT D.int) x26), some ((eP2 D.int D.int) x27), some ((eP3 (eP2 D.int D.int) (eT D.int) (eT D.int)) x28)]) rfl (fun _ _ => rfl) fun x27 x28 =>
  (t_seq fin_L (fun x41 : (Int × Int) => [some ((eL (eL (eL (eT D.int)))) a0), some ((eL (eP3 (eP2 D.int D.int) (eT D.int) (eT D.int))) a1), some ((eP2 D.int D.int) x3), some (D.int x2), some (D.int x4), some ((eO (eP2 D.int D.int)) x25), some ((eT D.int) x26), some ((eP2 D.int D.int) x41), some ((eP3 (eP2 D.int D.int) (eT D.int) (eT D.int)) x28)]) (s_if (o' := (fun s : (Int × Int) => Fl.nx [some ((eL (eL (eL (eT D.int)))) a0), some ((eL (eP3 (eP2 D.int D.int) (eT D.int) (eT D.int))) a1), some ((eP2 D.int D.int) x3), some (D.int x2), some (D.int x4), some ((eO (eP2 D.int D.int)) x25), some ((eT D.int) x26), some ((eP2 D.int D.int) s), some ((eP3 (eP2 D.int D.int) (eT D.int) (eT D.int)) x28)])) (t_ifI fin_S (rAndI (q_B (b_iB (q_f2 (b_i (q_f2 (b_p rfl (b_p rfl op_ixT))) fun x37 => (b_p rfl (rf_ok (op_eq (e := D.int) (x := x37) (x' := x4)))))))) (q_Tr (b_iT (q_on (a_p rfl (a_p rfl (a_0 (rf_chk (n_law_passes_ti_ti x26 x28.2.2) rfl)))))))) (t_seq fin_S (fun x39 : (Int × Int) => [some ((eL (eL (eL (eT D.int)))) a0), some ((eL (eP3 (eP2 D.int D.int) (eT D.int) (eT D.int))) a1), some ((eP2 D.int D.int) x3), some (D.int x2), some (D.int x4), some ((eO (eP2 D.int D.int)) x25), some ((eT D.int) x26), some ((eP2 D.int D.int) x39), some ((eP3 (eP2 D.int D.int) (eT D.int) (eT D.int)) x28)]) (s_set (e := (eP2 D.int D.int)) _ (q_on (a_p rfl (a_p rfl (a_0 (rf_chk (n_law_added_piiq_piiq x27 x28.1) rfl))))) fun _ => rfl) fun x39 =>
  (t_next rfl))
  (t_nextS (t_next rfl)))) fun x41 =>
  (t_next rfl))) fun x42 =>
  (t_seq fin_L (fun x49 : (Int × Int) => [some ((eL (eL (eL (eT D.int)))) a0), some ((eL (eP3 (eP2 D.int D.int) (eT D.int) (eT D.int))) a1), some ((eP2 D.int D.int) x3), some (D.int x2), some (D.int x4), some ((eP2 D.int D.int) x49), some ((eT D.int) x26), some ((eP2 D.int D.int) x42), none]) (s_if (o' := (fun s : (Int × Int) => Fl.nx [some ((eL (eL (eL (eT D.int)))) a0), some ((eL (eP3 (eP2 D.int D.int) (eT D.int) (eT D.int))) a1), some ((eP2 D.int D.int) x3), some (D.int x2), some (D.int x4), some ((eP2 D.int D.int) s), some ((eT D.int) x26), some ((eP2 D.int D.int) x42), none])) (t_ifC (x := x25) (fun z : (Option (Int × Int)) => [some ((eL (eL (eL (eT D.int)))) a0), some ((eL (eP3 (eP2 D.int D.int) (eT D.int) (eT D.int))) a1), some ((eP2 D.int D.int) x3), some (D.int x2), some (D.int x4), some ((eO (eP2 D.int D.int)) z), some ((eT D.int) x26), some ((eP2 D.int D.int) x42), none]) (t_ifT (evOrT rfl) (t_seqp [some ((eL (eL (eL (eT D.int)))) a0), some ((eL (eP3 (eP2 D.int D.int) (eT D.int) (eT D.int))) a1), some ((eP2 D.int D.int) x3), some (D.int x2), some (D.int x4), some ((eP2 D.int D.int) x42), some ((eT D.int) x26), some ((eP2 D.int D.int) x42), none] (set_p rfl rfl) (t_next rfl))) fun x47 => (t_ifI fin_S (rOrF rfl (q_Tr (b_iT (q_on (a_p rfl (a_p rfl (a_0 (rf_chk (n_law_at_most_piiq_piiq x42 x47) rfl)))))))) (t_seqp [some ((eL (eL (eL (eT D.int)))) a0), some ((eL (eP3 (eP2 D.int D.int) (eT D.int) (eT D.int))) a1), some ((eP2 D.int D.int) x3), some (D.int x2), some (D.int x4), some ((eP2 D.int D.int) x42), some ((eT D.int) x26), some ((eP2 D.int D.int) x42), none] (set_p rfl rfl) (t_next rfl))
  (t_nextS (t_next rfl))))) fun x49 =>
  (t_next rfl))))))) fun x51 =>
  (t_seq fin_L (fun x52 : (Int × Int) => [some ((eL (eL (eL (eT D.int)))) a0), some ((eL (eP3 (eP2 D.int D.int) (eT D.int) (eT D.int))) a1), some ((eP2 D.int D.int) x52), some (D.int x2), some (D.int x4), some ((eO (eP2 D.int D.int)) x51), none, none, none]) (s_set (e := (eP2 D.int D.int)) _ (q_on (a_p rfl (a_p rfl (a_0 (rf_chk (n_law_added_piiq_opiiq x3 x51) rfl))))) fun _ => rfl) fun x52 =>
  (t_next rfl))))))) fun x54 =>
  (t_next rfl))) fun x56 =>
  (t_end (t_retF (rf_ok (e := (eP2 D.int D.int)) rfl))))))
def N_law_fi (a0 : (List Int)) : Res Bool :=
  ((((N_law_cell_fi_i a0 0).bind fun x4 => ((((repR [60] 6).bind fun x1 => (catR [8] x1)).bind fun x2 => ((repR [3, 42, 42] 4).bind fun x3 => (catR x2 x3))).bind fun x5 => (N_law_digits_i_li x4 x5))).bind fun x6 => (N_law_net_li_i x6 4)).bind fun x7 =>
  ((N_law_near_i_lpiiq x7.1 x7.2).bind fun x8 =>
  (((N_law_cell_fi_i a0 1).bind fun x10 => (((repR [12] 16).bind fun x9 => (catR [3, 11] x9)).bind fun x11 => (N_law_digits_i_li x10 x11))).bind fun x12 =>
  (((ixR x12 1).bind fun x13 => (N_law_menu_lli_li_i x8 x12 x13)).bind fun x14 =>
  (((N_Net_init_i_lpiiq x7.1 x7.2).bind fun x15 => (N_Menu_init_cNetitpiiqttitpiiqq_lllti x15 x14)).bind fun x16 =>
  ((N_law_places_lli x8).bind fun x17 =>
  (((N_law_cell_fi_i a0 2).bind fun x18 => (N_law_digits_i_li x18 [13, 8])).bind fun x19 =>
  ((((ixR x19 0).bind fun x20 => (rngR x20)).bind fun x50 => (forR (σ := (List ((Int × Int) × (List Int) × (List Int)))) (fun x21 x22 => (((N_law_cell_fi_i a0 (3 + x22)).bind fun x24 => (((repR [24] 4).bind fun x23 => (catR [(x17.length : Int), 9, 6, 4] x23)).bind fun x25 => (N_law_digits_i_li x24 x25))).bind fun x26 =>
  ((((ixR x26 1).bind fun x27 => (Res.ok (x27 - 2))).bind fun x29 => (((ixR x26 2).bind fun x28 => (ixR [1, 2, 3, 5, 7, 12] x28)).bind fun x30 => (N_law_fraction_i_i x29 x30))).bind fun x31 =>
  ((((N_law_day_i_li x7.1 (cutN x26 (some 4) none)).bind fun x33 => (((ixR x26 0).bind fun x32 => (ixR x17 x32)).bind fun x34 => (Res.ok (x31, x33, x34)))).bind fun x35 => appR x21 x35).bind fun x36 =>
  ((((ixR x26 3).bind fun x45 => (Res.ok (decide (x45 = 0)))).bind fun x48 => if x48 = true then (((ixR x36 0).bind fun x46 => appR x36 x46).bind fun x47 =>
  Res.ok x47) else
  Res.ok x36).bind fun x49 =>
  Res.ok x49))))) x50 [])).bind fun x51 =>
  ((((ixR x19 1).bind fun x58 => (Res.ok (decide (x58 = 0)))).bind fun x60 => if x60 = true then ((repR x51 12).bind fun x59 =>
  Res.ok x59) else
  Res.ok x51).bind fun x61 =>
  ((lcR x61 (fun x62 => Res.ok true) (fun x62 => (Res.ok [[x62.1.1, x62.1.2], x62.2.1, x62.2.2]))).bind fun x63 =>
  ((lcR x61 (fun x64 => Res.ok true) (fun x64 => (Res.ok [[x64.1.1, x64.1.2], x64.2.1, x64.2.2]))).bind fun x65 =>
  ((((nx ((N_mix_worth_cMenucNetitpiiqttitpiiqqttttiq_llli x16 x63).bind fun x66 => ((N_law_mix_worth_lllti_lppiiqtitiq x14 x61).bind fun x67 => (N_law_same_piiq_piiq x66 x67)))).bind fun x68 => Res.ok (!x68)).bind fun x69 => (if x69 = true then Res.ok true else (Res.ok (!decide (x63 = x65))))).bind fun x71 => if x71 = true then (Res.ok false) else
  ((N_mix_worth_cMenucNetitpiiqttitpiiqqttttiq_llli x16 []).bind fun x70 => (N_law_same_piiq_piiq x70 (0, 1)))))))))))))))
theorem n_law_fi (a0 : (List Int)) : Rf (m_law [(eF D.int) a0]) (N_law_fi a0) D.bl :=
  n_runF ((t_seq fin_F (fun x7 : (Int × (List (Int × Int))) => [some ((eF D.int) a0), some ((eH2 D.int (eL (eP2 D.int D.int))) x7), none, none, none, none, none, none, none, none, none, none, none, none, none, none]) (s_set (e := (eH2 D.int (eL (eP2 D.int D.int)))) _ (q_on (a_i (q_on (a_i (q_on (a_p rfl (a_p rfl (a_0 (rf_chk (n_law_cell_fi_i a0 0) rfl))))) fun x4 => (a_i (q_f2 (b_i (q_f2 (b_p rfl (b_i (q_f2 (b_p rfl (b_p rfl (op_rep (e := D.int))))) fun x1 => (op_catLL (e := D.int))))) fun x2 => (b_i (q_f2 (b_p rfl (b_p rfl (op_rep (e := D.int))))) fun x3 => (op_catLL (e := D.int))))) fun x5 => (a_0 (rf_chk (n_law_digits_i_li x4 x5) rfl))))) fun x6 => (a_p rfl (a_0 (rf_chk (n_law_net_li_i x6 4) rfl))))) fun _ => rfl) fun x7 =>
  (t_seqp [some ((eF D.int) a0), some ((eH2 D.int (eL (eP2 D.int D.int))) x7), some (D.int x7.1), none, none, none, none, none, none, none, none, none, none, none, none, none] (set_p rfl rfl) (t_seq fin_F (fun x8 : (List (List Int)) => [some ((eF D.int) a0), some ((eH2 D.int (eL (eP2 D.int D.int))) x7), some (D.int x7.1), some ((eL (eL D.int)) x8), none, none, none, none, none, none, none, none, none, none, none, none]) (s_set (e := (eL (eL D.int))) _ (q_on (a_p rfl (a_p rfl (a_0 (rf_chk (n_law_near_i_lpiiq x7.1 x7.2) rfl))))) fun _ => rfl) fun x8 =>
  (t_seq fin_F (fun x12 : (List Int) => [some ((eF D.int) a0), some ((eH2 D.int (eL (eP2 D.int D.int))) x7), some (D.int x7.1), some ((eL (eL D.int)) x8), some ((eL D.int) x12), none, none, none, none, none, none, none, none, none, none, none]) (s_set (e := (eL D.int)) _ (q_on (a_i (q_on (a_p rfl (a_p rfl (a_0 (rf_chk (n_law_cell_fi_i a0 1) rfl))))) fun x10 => (a_i (q_f2 (b_p rfl (b_i (q_f2 (b_p rfl (b_p rfl (op_rep (e := D.int))))) fun x9 => (op_catLL (e := D.int))))) fun x11 => (a_0 (rf_chk (n_law_digits_i_li x10 x11) rfl))))) fun _ => rfl) fun x12 =>
  (t_seq fin_F (fun x14 : (List (List (List (List Int)))) => [some ((eF D.int) a0), some ((eH2 D.int (eL (eP2 D.int D.int))) x7), some (D.int x7.1), some ((eL (eL D.int)) x8), some ((eL D.int) x12), some ((eL (eL (eL (eT D.int)))) x14), none, none, none, none, none, none, none, none, none, none]) (s_set (e := (eL (eL (eL (eT D.int))))) _ (q_on (a_p rfl (a_p rfl (a_i (q_f2 (b_p rfl (b_p rfl op_ixL))) fun x13 => (a_0 (rf_chk (n_law_menu_lli_li_i x8 x12 x13) rfl)))))) fun _ => rfl) fun x14 =>
  (t_seq fin_F (fun x16 : ((Int × (List (Int × Int)) × (List (List Int)) × (List (Int × Int))) × (List (List (List (List Int))))) => [some ((eF D.int) a0), some ((eH2 D.int (eL (eP2 D.int D.int))) x7), some (D.int x7.1), some ((eL (eL D.int)) x8), some ((eL D.int) x12), some ((eL (eL (eL (eT D.int)))) x14), some ((eOb2 "Menu" "net" "rows" (eOb4 "Net" "size" "links" "near" "lane_row" D.int (eT (eP2 D.int D.int)) (eT (eT D.int)) (eT (eP2 D.int D.int))) (eT (eT (eT (eT D.int))))) x16), none, none, none, none, none, none, none, none, none]) (s_set (e := (eOb2 "Menu" "net" "rows" (eOb4 "Net" "size" "links" "near" "lane_row" D.int (eT (eP2 D.int D.int)) (eT (eT D.int)) (eT (eP2 D.int D.int))) (eT (eT (eT (eT D.int)))))) _ (q_on (a_i (q_on (a_p rfl (a_p rfl (a_0 (rf_chk (n_Net_init_i_lpiiq x7.1 x7.2) rfl))))) fun x15 => (a_p rfl (a_0 (rf_chk (n_Menu_init_cNetitpiiqttitpiiqq_lllti x15 x14) rfl))))) fun _ => rfl) fun x16 =>
  (t_seq fin_F (fun x17 : (List (List Int)) => [some ((eF D.int) a0), some ((eH2 D.int (eL (eP2 D.int D.int))) x7), some (D.int x7.1), some ((eL (eL D.int)) x8), some ((eL D.int) x12), some ((eL (eL (eL (eT D.int)))) x14), some ((eOb2 "Menu" "net" "rows" (eOb4 "Net" "size" "links" "near" "lane_row" D.int (eT (eP2 D.int D.int)) (eT (eT D.int)) (eT (eP2 D.int D.int))) (eT (eT (eT (eT D.int))))) x16), some ((eL (eT D.int)) x17), none, none, none, none, none, none, none, none]) (s_set (e := (eL (eT D.int))) _ (q_on (a_p rfl (a_0 (rf_chk (n_law_places_lli x8) rfl)))) fun _ => rfl) fun x17 =>
  (t_seq fin_F (fun x19 : (List Int) => [some ((eF D.int) a0), some ((eH2 D.int (eL (eP2 D.int D.int))) x7), some (D.int x7.1), some ((eL (eL D.int)) x8), some ((eL D.int) x12), some ((eL (eL (eL (eT D.int)))) x14), some ((eOb2 "Menu" "net" "rows" (eOb4 "Net" "size" "links" "near" "lane_row" D.int (eT (eP2 D.int D.int)) (eT (eT D.int)) (eT (eP2 D.int D.int))) (eT (eT (eT (eT D.int))))) x16), some ((eL (eT D.int)) x17), some ((eL D.int) x19), none, none, none, none, none, none, none]) (s_set (e := (eL D.int)) _ (q_on (a_i (q_on (a_p rfl (a_p rfl (a_0 (rf_chk (n_law_cell_fi_i a0 2) rfl))))) fun x18 => (a_p rfl (a_0 (rf_chk (n_law_digits_i_li x18 [13, 8]) rfl))))) fun _ => rfl) fun x19 =>
  (t_seqp [some ((eF D.int) a0), some ((eH2 D.int (eL (eP2 D.int D.int))) x7), some (D.int x7.1), some ((eL (eL D.int)) x8), some ((eL D.int) x12), some ((eL (eL (eL (eT D.int)))) x14), some ((eOb2 "Menu" "net" "rows" (eOb4 "Net" "size" "links" "near" "lane_row" D.int (eT (eP2 D.int D.int)) (eT (eT D.int)) (eT (eP2 D.int D.int))) (eT (eT (eT (eT D.int))))) x16), some ((eL (eT D.int)) x17), some ((eL D.int) x19), some ((eL (eP3 (eP2 D.int D.int) (eT D.int) (eT D.int))) []), none, none, none, none, none, none] (set_p rfl rfl) (t_seq fin_F (fun x51 : (List ((Int × Int) × (List Int) × (List Int))) => [some ((eF D.int) a0), some ((eH2 D.int (eL (eP2 D.int D.int))) x7), some (D.int x7.1), some ((eL (eL D.int)) x8), some ((eL D.int) x12), some ((eL (eL (eL (eT D.int)))) x14), some ((eOb2 "Menu" "net" "rows" (eOb4 "Net" "size" "links" "near" "lane_row" D.int (eT (eP2 D.int D.int)) (eT (eT D.int)) (eT (eP2 D.int D.int))) (eT (eT (eT (eT D.int))))) x16), some ((eL (eT D.int)) x17), some ((eL D.int) x19), some ((eL (eP3 (eP2 D.int D.int) (eT D.int) (eT D.int))) x51), none, none, none, none, none, none]) (s_for (ex := D.int) (s0 := []) (q_R1 (a_i (q_f2 (b_p rfl (b_p rfl op_ixL))) fun x20 => (a_0 k_R1))) (fun x21 : (List ((Int × Int) × (List Int) × (List Int))) => [some ((eF D.int) a0), some ((eH2 D.int (eL (eP2 D.int D.int))) x7), some (D.int x7.1), some ((eL (eL D.int)) x8), some ((eL D.int) x12), some ((eL (eL (eL (eT D.int)))) x14), some ((eOb2 "Menu" "net" "rows" (eOb4 "Net" "size" "links" "near" "lane_row" D.int (eT (eP2 D.int D.int)) (eT (eT D.int)) (eT (eP2 D.int D.int))) (eT (eT (eT (eT D.int))))) x16), some ((eL (eT D.int)) x17), some ((eL D.int) x19), some ((eL (eP3 (eP2 D.int D.int) (eT D.int) (eT D.int))) x21), none, none, none, none, none, none]) (fun (x21 : (List ((Int × Int) × (List Int) × (List Int)))) (x22 : Int) => [some ((eF D.int) a0), some ((eH2 D.int (eL (eP2 D.int D.int))) x7), some (D.int x7.1), some ((eL (eL D.int)) x8), some ((eL D.int) x12), some ((eL (eL (eL (eT D.int)))) x14), some ((eOb2 "Menu" "net" "rows" (eOb4 "Net" "size" "links" "near" "lane_row" D.int (eT (eP2 D.int D.int)) (eT (eT D.int)) (eT (eP2 D.int D.int))) (eT (eT (eT (eT D.int))))) x16), some ((eL (eT D.int)) x17), some ((eL D.int) x19), some ((eL (eP3 (eP2 D.int D.int) (eT D.int) (eT D.int))) x21), some (D.int x22), none, none, none, none, none]) rfl (fun _ _ => rfl) fun x21 x22 =>
  (t_assoc (t_seq fin_L (fun x26 : (List Int) => [some ((eF D.int) a0), some ((eH2 D.int (eL (eP2 D.int D.int))) x7), some (D.int x7.1), some ((eL (eL D.int)) x8), some ((eL D.int) x12), some ((eL (eL (eL (eT D.int)))) x14), some ((eOb2 "Menu" "net" "rows" (eOb4 "Net" "size" "links" "near" "lane_row" D.int (eT (eP2 D.int D.int)) (eT (eT D.int)) (eT (eP2 D.int D.int))) (eT (eT (eT (eT D.int))))) x16), some ((eL (eT D.int)) x17), some ((eL D.int) x19), some ((eL (eP3 (eP2 D.int D.int) (eT D.int) (eT D.int))) x21), some (D.int x22), none, none, some ((eL D.int) x26), none, none]) (s_set (e := (eL D.int)) _ (q_on (a_i (q_on (a_p rfl (a_p rfl (a_0 (rf_chk (n_law_cell_fi_i a0 (3 + x22)) rfl))))) fun x24 => (a_i (q_f2 (b_p (evOn (evA (evSc (evOn (evA rfl rfl) op_lenL) rfl) (evA rfl (evA rfl (evA rfl rfl)))) rfl) (b_i (q_f2 (b_p rfl (b_p rfl (op_rep (e := D.int))))) fun x23 => (op_catLL (e := D.int))))) fun x25 => (a_0 (rf_chk (n_law_digits_i_li x24 x25) rfl))))) fun _ => rfl) fun x26 =>
  (t_assoc (t_seq fin_L (fun x31 : (Int × Int) => [some ((eF D.int) a0), some ((eH2 D.int (eL (eP2 D.int D.int))) x7), some (D.int x7.1), some ((eL (eL D.int)) x8), some ((eL D.int) x12), some ((eL (eL (eL (eT D.int)))) x14), some ((eOb2 "Menu" "net" "rows" (eOb4 "Net" "size" "links" "near" "lane_row" D.int (eT (eP2 D.int D.int)) (eT (eT D.int)) (eT (eP2 D.int D.int))) (eT (eT (eT (eT D.int))))) x16), some ((eL (eT D.int)) x17), some ((eL D.int) x19), some ((eL (eP3 (eP2 D.int D.int) (eT D.int) (eT D.int))) x21), some (D.int x22), none, none, some ((eL D.int) x26), some ((eP2 D.int D.int) x31), none]) (s_set (e := (eP2 D.int D.int)) _ (q_on (a_i (q_f2 (b_i (q_f2 (b_p rfl (b_p rfl op_ixL))) fun x27 => (b_p rfl (rf_ok rfl)))) fun x29 => (a_i (q_f2 (b_p rfl (b_i (q_f2 (b_p rfl (b_p rfl op_ixL))) fun x28 => op_ixL))) fun x30 => (a_0 (rf_chk (n_law_fraction_i_i x29 x30) rfl))))) fun _ => rfl) fun x31 =>
  (t_assoc (t_seq fin_L (fun x36 : (List ((Int × Int) × (List Int) × (List Int))) => [some ((eF D.int) a0), some ((eH2 D.int (eL (eP2 D.int D.int))) x7), some (D.int x7.1), some ((eL (eL D.int)) x8), some ((eL D.int) x12), some ((eL (eL (eL (eT D.int)))) x14), some ((eOb2 "Menu" "net" "rows" (eOb4 "Net" "size" "links" "near" "lane_row" D.int (eT (eP2 D.int D.int)) (eT (eT D.int)) (eT (eP2 D.int D.int))) (eT (eT (eT (eT D.int))))) x16), some ((eL (eT D.int)) x17), some ((eL D.int) x19), some ((eL (eP3 (eP2 D.int D.int) (eT D.int) (eT D.int))) x36), some (D.int x22), none, none, some ((eL D.int) x26), some ((eP2 D.int D.int) x31), none]) (s_appI (e := (eP3 (eP2 D.int D.int) (eT D.int) (eT D.int))) (xs := x21) (fun ys : (List ((Int × Int) × (List Int) × (List Int))) => [some ((eF D.int) a0), some ((eH2 D.int (eL (eP2 D.int D.int))) x7), some (D.int x7.1), some ((eL (eL D.int)) x8), some ((eL D.int) x12), some ((eL (eL (eL (eT D.int)))) x14), some ((eOb2 "Menu" "net" "rows" (eOb4 "Net" "size" "links" "near" "lane_row" D.int (eT (eP2 D.int D.int)) (eT (eT D.int)) (eT (eP2 D.int D.int))) (eT (eT (eT (eT D.int))))) x16), some ((eL (eT D.int)) x17), some ((eL D.int) x19), some ((eL (eP3 (eP2 D.int D.int) (eT D.int) (eT D.int))) ys), some (D.int x22), none, none, some ((eL D.int) x26), some ((eP2 D.int D.int) x31), none]) rfl (q_on (a_p rfl (a_i (q_on (a_p rfl (a_p (evCut rfl rfl rfl op_cutLL) (a_0 (rf_chk (n_law_day_i_li x7.1 (cutN x26 (some 4) none)) rfl))))) fun x33 => (a_i (q_f2 (b_p rfl (b_i (q_f2 (b_p rfl (b_p rfl op_ixL))) fun x32 => op_ixL))) fun x34 => (a_0 (rf_ok rfl)))))) fun _ => rfl) fun x36 =>
  (t_seq fin_L (fun x49 : (List ((Int × Int) × (List Int) × (List Int))) => [some ((eF D.int) a0), some ((eH2 D.int (eL (eP2 D.int D.int))) x7), some (D.int x7.1), some ((eL (eL D.int)) x8), some ((eL D.int) x12), some ((eL (eL (eL (eT D.int)))) x14), some ((eOb2 "Menu" "net" "rows" (eOb4 "Net" "size" "links" "near" "lane_row" D.int (eT (eP2 D.int D.int)) (eT (eT D.int)) (eT (eP2 D.int D.int))) (eT (eT (eT (eT D.int))))) x16), some ((eL (eT D.int)) x17), some ((eL D.int) x19), some ((eL (eP3 (eP2 D.int D.int) (eT D.int) (eT D.int))) x49), some (D.int x22), none, none, some ((eL D.int) x26), some ((eP2 D.int D.int) x31), none]) (s_if (o' := (fun s : (List ((Int × Int) × (List Int) × (List Int))) => Fl.nx [some ((eF D.int) a0), some ((eH2 D.int (eL (eP2 D.int D.int))) x7), some (D.int x7.1), some ((eL (eL D.int)) x8), some ((eL D.int) x12), some ((eL (eL (eL (eT D.int)))) x14), some ((eOb2 "Menu" "net" "rows" (eOb4 "Net" "size" "links" "near" "lane_row" D.int (eT (eP2 D.int D.int)) (eT (eT D.int)) (eT (eP2 D.int D.int))) (eT (eT (eT (eT D.int))))) x16), some ((eL (eT D.int)) x17), some ((eL D.int) x19), some ((eL (eP3 (eP2 D.int D.int) (eT D.int) (eT D.int))) s), some (D.int x22), none, none, some ((eL D.int) x26), some ((eP2 D.int D.int) x31), none])) (t_ifI fin_S (q_B (b_iB (q_f2 (b_i (q_f2 (b_p rfl (b_p rfl op_ixL))) fun x45 => (b_p rfl (rf_ok (op_eq (e := D.int) (x := x45) (x' := 0)))))))) (t_seq fin_S (fun x47 : (List ((Int × Int) × (List Int) × (List Int))) => [some ((eF D.int) a0), some ((eH2 D.int (eL (eP2 D.int D.int))) x7), some (D.int x7.1), some ((eL (eL D.int)) x8), some ((eL D.int) x12), some ((eL (eL (eL (eT D.int)))) x14), some ((eOb2 "Menu" "net" "rows" (eOb4 "Net" "size" "links" "near" "lane_row" D.int (eT (eP2 D.int D.int)) (eT (eT D.int)) (eT (eP2 D.int D.int))) (eT (eT (eT (eT D.int))))) x16), some ((eL (eT D.int)) x17), some ((eL D.int) x19), some ((eL (eP3 (eP2 D.int D.int) (eT D.int) (eT D.int))) x47), some (D.int x22), none, none, some ((eL D.int) x26), some ((eP2 D.int D.int) x31), none]) (s_appI (e := (eP3 (eP2 D.int D.int) (eT D.int) (eT D.int))) (xs := x36) (fun ys : (List ((Int × Int) × (List Int) × (List Int))) => [some ((eF D.int) a0), some ((eH2 D.int (eL (eP2 D.int D.int))) x7), some (D.int x7.1), some ((eL (eL D.int)) x8), some ((eL D.int) x12), some ((eL (eL (eL (eT D.int)))) x14), some ((eOb2 "Menu" "net" "rows" (eOb4 "Net" "size" "links" "near" "lane_row" D.int (eT (eP2 D.int D.int)) (eT (eT D.int)) (eT (eP2 D.int D.int))) (eT (eT (eT (eT D.int))))) x16), some ((eL (eT D.int)) x17), some ((eL D.int) x19), some ((eL (eP3 (eP2 D.int D.int) (eT D.int) (eT D.int))) ys), some (D.int x22), none, none, some ((eL D.int) x26), some ((eP2 D.int D.int) x31), none]) rfl (q_f2 (b_p rfl (b_p rfl op_ixL))) fun _ => rfl) fun x47 =>
  (t_next rfl))
  (t_nextS (t_next rfl)))) fun x49 =>
  (t_next rfl))))))))) fun x51 =>
  (t_seq fin_F (fun x61 : (List ((Int × Int) × (List Int) × (List Int))) => [some ((eF D.int) a0), some ((eH2 D.int (eL (eP2 D.int D.int))) x7), some (D.int x7.1), some ((eL (eL D.int)) x8), some ((eL D.int) x12), some ((eL (eL (eL (eT D.int)))) x14), some ((eOb2 "Menu" "net" "rows" (eOb4 "Net" "size" "links" "near" "lane_row" D.int (eT (eP2 D.int D.int)) (eT (eT D.int)) (eT (eP2 D.int D.int))) (eT (eT (eT (eT D.int))))) x16), some ((eL (eT D.int)) x17), some ((eL D.int) x19), some ((eL (eP3 (eP2 D.int D.int) (eT D.int) (eT D.int))) x61), none, none, none, none, none, none]) (s_if (o' := (fun s : (List ((Int × Int) × (List Int) × (List Int))) => Fl.nx [some ((eF D.int) a0), some ((eH2 D.int (eL (eP2 D.int D.int))) x7), some (D.int x7.1), some ((eL (eL D.int)) x8), some ((eL D.int) x12), some ((eL (eL (eL (eT D.int)))) x14), some ((eOb2 "Menu" "net" "rows" (eOb4 "Net" "size" "links" "near" "lane_row" D.int (eT (eP2 D.int D.int)) (eT (eT D.int)) (eT (eP2 D.int D.int))) (eT (eT (eT (eT D.int))))) x16), some ((eL (eT D.int)) x17), some ((eL D.int) x19), some ((eL (eP3 (eP2 D.int D.int) (eT D.int) (eT D.int))) s), none, none, none, none, none, none])) (t_ifI fin_S (q_B (b_iB (q_f2 (b_i (q_f2 (b_p rfl (b_p rfl op_ixL))) fun x58 => (b_p rfl (rf_ok (op_eq (e := D.int) (x := x58) (x' := 0)))))))) (t_seq fin_S (fun x59 : (List ((Int × Int) × (List Int) × (List Int))) => [some ((eF D.int) a0), some ((eH2 D.int (eL (eP2 D.int D.int))) x7), some (D.int x7.1), some ((eL (eL D.int)) x8), some ((eL D.int) x12), some ((eL (eL (eL (eT D.int)))) x14), some ((eOb2 "Menu" "net" "rows" (eOb4 "Net" "size" "links" "near" "lane_row" D.int (eT (eP2 D.int D.int)) (eT (eT D.int)) (eT (eP2 D.int D.int))) (eT (eT (eT (eT D.int))))) x16), some ((eL (eT D.int)) x17), some ((eL D.int) x19), some ((eL (eP3 (eP2 D.int D.int) (eT D.int) (eT D.int))) x59), none, none, none, none, none, none]) (s_set (e := (eL (eP3 (eP2 D.int D.int) (eT D.int) (eT D.int)))) _ (q_f2 (b_p rfl (b_p rfl (op_rep (e := (eP3 (eP2 D.int D.int) (eT D.int) (eT D.int))))))) fun _ => rfl) fun x59 =>
  (t_next rfl))
  (t_nextS (t_next rfl)))) fun x61 =>
  (t_seq fin_F (fun x63 : (List (List (List Int))) => [some ((eF D.int) a0), some ((eH2 D.int (eL (eP2 D.int D.int))) x7), some (D.int x7.1), some ((eL (eL D.int)) x8), some ((eL D.int) x12), some ((eL (eL (eL (eT D.int)))) x14), some ((eOb2 "Menu" "net" "rows" (eOb4 "Net" "size" "links" "near" "lane_row" D.int (eT (eP2 D.int D.int)) (eT (eT D.int)) (eT (eP2 D.int D.int))) (eT (eT (eT (eT D.int))))) x16), some ((eL (eT D.int)) x17), some ((eL D.int) x19), some ((eL (eP3 (eP2 D.int D.int) (eT D.int) (eT D.int))) x61), none, some ((eL (eL (eL D.int))) x63), none, none, none, none]) (s_set (e := (eL (eL (eL D.int)))) _ (rf_lcp (it_L (e := (eP3 (eP2 D.int D.int) (eT D.int) (eT D.int))) (xs := x61) rfl) (fun x62 : ((Int × Int) × (List Int) × (List Int)) => [some ((eF D.int) a0), some ((eH2 D.int (eL (eP2 D.int D.int))) x7), some (D.int x7.1), some ((eL (eL D.int)) x8), some ((eL D.int) x12), some ((eL (eL (eL (eT D.int)))) x14), some ((eOb2 "Menu" "net" "rows" (eOb4 "Net" "size" "links" "near" "lane_row" D.int (eT (eP2 D.int D.int)) (eT (eT D.int)) (eT (eP2 D.int D.int))) (eT (eT (eT (eT D.int))))) x16), some ((eL (eT D.int)) x17), some ((eL D.int) x19), some ((eL (eP3 (eP2 D.int D.int) (eT D.int) (eT D.int))) x61), none, none, none, none, none, some ((eP3 (eP2 D.int D.int) (eT D.int) (eT D.int)) x62)]) (fun _ => rfl) (fun x62 => (rf_ok (v := true) rfl)) (fun x62 => (rf_ok (e := (eL (eL D.int))) rfl))) fun _ => rfl) fun x63 =>
  (t_seq fin_F (fun x65 : (List (List (List Int))) => [some ((eF D.int) a0), some ((eH2 D.int (eL (eP2 D.int D.int))) x7), some (D.int x7.1), some ((eL (eL D.int)) x8), some ((eL D.int) x12), some ((eL (eL (eL (eT D.int)))) x14), some ((eOb2 "Menu" "net" "rows" (eOb4 "Net" "size" "links" "near" "lane_row" D.int (eT (eP2 D.int D.int)) (eT (eT D.int)) (eT (eP2 D.int D.int))) (eT (eT (eT (eT D.int))))) x16), some ((eL (eT D.int)) x17), some ((eL D.int) x19), some ((eL (eP3 (eP2 D.int D.int) (eT D.int) (eT D.int))) x61), none, some ((eL (eL (eL D.int))) x63), some ((eL (eL (eL D.int))) x65), none, none, none]) (s_set (e := (eL (eL (eL D.int)))) _ (rf_lcp (it_L (e := (eP3 (eP2 D.int D.int) (eT D.int) (eT D.int))) (xs := x61) rfl) (fun x64 : ((Int × Int) × (List Int) × (List Int)) => [some ((eF D.int) a0), some ((eH2 D.int (eL (eP2 D.int D.int))) x7), some (D.int x7.1), some ((eL (eL D.int)) x8), some ((eL D.int) x12), some ((eL (eL (eL (eT D.int)))) x14), some ((eOb2 "Menu" "net" "rows" (eOb4 "Net" "size" "links" "near" "lane_row" D.int (eT (eP2 D.int D.int)) (eT (eT D.int)) (eT (eP2 D.int D.int))) (eT (eT (eT (eT D.int))))) x16), some ((eL (eT D.int)) x17), some ((eL D.int) x19), some ((eL (eP3 (eP2 D.int D.int) (eT D.int) (eT D.int))) x61), none, some ((eL (eL (eL D.int))) x63), none, none, none, some ((eP3 (eP2 D.int D.int) (eT D.int) (eT D.int)) x64)]) (fun _ => rfl) (fun x64 => (rf_ok (v := true) rfl)) (fun x64 => (rf_ok (e := (eL (eL D.int))) rfl))) fun _ => rfl) fun x65 =>
  (t_ifI fin_F (rOrI (q_Not (b_i (rNx (q_Tr (b_iT (q_on (a_i (q_on (a_p rfl (a_p rfl (a_0 (rf_chk (n_mix_worth_cMenucNetitpiiqttitpiiqqttttiq_llli x16 x63) rfl))))) fun x66 => (a_i (q_on (a_p rfl (a_p rfl (a_0 (rf_chk (n_law_mix_worth_lllti_lppiiqtitiq x14 x61) rfl))))) fun x67 => (a_0 (rf_chk (n_law_same_piiq_piiq x66 x67) rfl)))))))) fun _ => rf_ok rfl)) (rf_ok (e := fun b => b) (evNx (evB (ev2 rfl rfl (op_ne (e := (eL (eL (eL D.int)))) (x := x63) (x' := x65))))))) (t_retF (rf_ok (e := D.bl) rfl))
  (t_nextS (t_end (t_retF (q_on (a_i (q_on (a_p rfl (a_p rfl (a_0 (rf_chk (n_mix_worth_cMenucNetitpiiqttitpiiqqttttiq_llli x16 []) rfl))))) fun x70 => (a_p rfl (a_0 (rf_chk (n_law_same_piiq_piiq x70 (0, 1)) rfl)))))))))))))))))))))))
end Kx
namespace Kx
open PySem PySem.Spec L2 Da
def top (i : Nat) : Stmt := PySem.Challenge.pw_nobadday_k70_hard_mixes.main.body.getD i (.Pass ⟨0, 0, 0, 0⟩)
abbrev s_law_net : Stmt := top 42
abbrev s_law_near : Stmt := top 43
abbrev s_law_digits : Stmt := top 41
abbrev s_law_all_routes : Stmt := top 53
abbrev s_law_menu : Stmt := top 54
abbrev s_frozen : Stmt := top 10
abbrev s_route_lanes : Stmt := top 26
abbrev s_is_number : Stmt := top 11
abbrev s_is_route : Stmt := top 27
abbrev s_checked_menu : Stmt := top 32
abbrev s_Menu_init : Stmt := inCls (top 33) 0
abbrev s_law_lanes : Stmt := top 44
abbrev s_law_places : Stmt := top 45
abbrev s_law_whole : Stmt := top 39
abbrev s_law_same : Stmt := top 52
abbrev s_law_cell : Stmt := top 40
abbrev s_is_link : Stmt := top 15
abbrev s_checked_links : Stmt := top 16
abbrev s_near_nodes : Stmt := top 17
abbrev s_lanes_of : Stmt := top 18
abbrev s_reached : Stmt := top 14
abbrev s_Net_init : Stmt := inCls (top 19) 0
abbrev s_law_gcd : Stmt := top 48
abbrev s_law_fraction : Stmt := top 49
abbrev s_pairs_of : Stmt := top 34
abbrev s_ratio : Stmt := top 21
abbrev s_added : Stmt := top 22
abbrev s_fraction_sum : Stmt := top 24
abbrev s_compare : Stmt := top 23
abbrev s_least_of : Stmt := top 30
abbrev s_passes : Stmt := top 28
abbrev s_route_worth : Stmt := top 36
abbrev s_mix_worth : Stmt := top 37
abbrev s_law_day : Stmt := top 46
abbrev s_law_added : Stmt := top 50
abbrev s_law_at_most : Stmt := top 51
abbrev s_law_passes : Stmt := top 47
abbrev s_law_mix_worth : Stmt := top 55
abbrev s_law : Stmt := top 56
abbrev s_BadRoute_init : Stmt := inCls (top 8) 0
abbrev s_BadLink_init : Stmt := inCls (top 6) 0
abbrev s_BadSize_init : Stmt := inCls (top 5) 0
abbrev s_NotConnected_init : Stmt := inCls (top 7) 0
/-- what stands behind the top -/
structure Txt (K : PySem.W.Frag) (mg : Str → Option Value) : Prop where
  d_law_net : DefAt K mg "_law_net" "_law_net" s_law_net ["row", "upto"]
  d_law_near : DefAt K mg "_law_near" "_law_near" s_law_near ["size", "links"]
  d_law_digits : DefAt K mg "_law_digits" "_law_digits" s_law_digits ["cell", "sizes"]
  d_law_all_routes : DefAt K mg "_law_all_routes" "_law_all_routes" s_law_all_routes ["near", "u", "v"]
  d_law_menu : DefAt K mg "_law_menu" "_law_menu" s_law_menu ["near", "row", "extra"]
  d_frozen : DefAt K mg "frozen" "frozen" s_frozen ["value"]
  d_route_lanes : DefAt K mg "route_lanes" "route_lanes" s_route_lanes ["route"]
  d_is_number : DefAt K mg "is_number" "is_number" s_is_number ["value"]
  d_is_route : DefAt K mg "is_route" "is_route" s_is_route ["net", "value", "sender", "goal"]
  d_checked_menu : DefAt K mg "checked_menu" "checked_menu" s_checked_menu ["net", "rows"]
  d_Menu_init : InitAt K mg "Menu" "Menu.__init__" s_Menu_init ["self", "net", "rows"]
  d_law_lanes : DefAt K mg "_law_lanes" "_law_lanes" s_law_lanes ["near"]
  d_law_places : DefAt K mg "_law_places" "_law_places" s_law_places ["near"]
  d_law_whole : DefAt K mg "_law_whole" "_law_whole" s_law_whole ["value"]
  d_law_same : DefAt K mg "_law_same" "_law_same" s_law_same ["value", "due"]
  d_law_cell : DefAt K mg "_law_cell" "_law_cell" s_law_cell ["script", "k"]
  d_is_link : DefAt K mg "is_link" "is_link" s_is_link ["size", "link"]
  d_checked_links : DefAt K mg "checked_links" "checked_links" s_checked_links ["size", "links"]
  d_near_nodes : DefAt K mg "near_nodes" "near_nodes" s_near_nodes ["size", "links"]
  d_lanes_of : DefAt K mg "lanes_of" "lanes_of" s_lanes_of ["near"]
  d_reached : DefAt K mg "reached" "reached" s_reached ["size", "links", "start"]
  d_Net_init : InitAt K mg "Net" "Net.__init__" s_Net_init ["self", "size", "links"]
  d_law_gcd : DefAt K mg "_law_gcd" "_law_gcd" s_law_gcd ["a", "b"]
  d_law_fraction : DefAt K mg "_law_fraction" "_law_fraction" s_law_fraction ["top", "bottom"]
  d_pairs_of : DefAt K mg "pairs_of" "pairs_of" s_pairs_of ["menu"]
  d_ratio : DefAt K mg "ratio" "ratio" s_ratio ["top", "bottom"]
  d_added : DefAt K mg "added" "added" s_added ["one", "two"]
  d_fraction_sum : DefAt K mg "fraction_sum" "fraction_sum" s_fraction_sum ["values"]
  d_compare : DefAt K mg "compare" "compare" s_compare ["one", "two"]
  d_least_of : DefAt K mg "least_of" "least_of" s_least_of ["values"]
  d_passes : DefAt K mg "passes" "passes" s_passes ["route", "place"]
  d_route_worth : DefAt K mg "route_worth" "route_worth" s_route_worth ["mix", "u", "v", "route"]
  d_mix_worth : DefAt K mg "mix_worth" "mix_worth" s_mix_worth ["menu", "mix"]
  d_law_day : DefAt K mg "_law_day" "_law_day" s_law_day ["size", "row"]
  d_law_added : DefAt K mg "_law_added" "_law_added" s_law_added ["one", "two"]
  d_law_at_most : DefAt K mg "_law_at_most" "_law_at_most" s_law_at_most ["one", "two"]
  d_law_passes : DefAt K mg "_law_passes" "_law_passes" s_law_passes ["route", "place"]
  d_law_mix_worth : DefAt K mg "_law_mix_worth" "_law_mix_worth" s_law_mix_worth ["rows", "mix"]
  f_Menu_net : FldAt K mg "Menu" "net"
  f_Menu_rows : FldAt K mg "Menu" "rows"
  f_Net_lane_row : FldAt K mg "Net" "lane_row"
  f_Net_links : FldAt K mg "Net" "links"
  f_Net_near : FldAt K mg "Net" "near"
  f_Net_size : FldAt K mg "Net" "size"
  g_gcd : mg "gcd" = some (.builtin "math.gcd")
  e_BadRoute : ErrAt K mg "BadRoute" "BadRoute.__init__" s_BadRoute_init ["self", "sender", "goal"] ["sender", "goal"]
  e_BadLink : ErrAt K mg "BadLink" "BadLink.__init__" s_BadLink_init ["self", "index"] ["index"]
  e_BadSize : ErrAt K mg "BadSize" "BadSize.__init__" s_BadSize_init ["self", "size"] ["size"]
  e_NotConnected : ErrAt K mg "NotConnected" "NotConnected.__init__" s_NotConnected_init ["self", "node"] ["node"]
  e0_ZeroBottom : Err0 K mg "ZeroBottom"
  c_MOST_NODES : GlobI mg "MOST_NODES" 24
  z_abs : mg "abs" = none
  z_all : mg "all" = none
  z_bool : mg "bool" = none
  z_enumerate : mg "enumerate" = none
  z_int : mg "int" = none
  z_isinstance : mg "isinstance" = none
  z_len : mg "len" = none
  z_list : mg "list" = none
  z_max : mg "max" = none
  z_min : mg "min" = none
  z_range : mg "range" = none
  z_set : mg "set" = none
  z_sorted : mg "sorted" = none
  z_str : mg "str" = none
  z_tuple : mg "tuple" = none
theorem sc_BadRoute_init : FnScope ["self", "sender", "goal"] ["self", "sender", "goal"] (defScope s_BadRoute_init) := ⟨rfl, rfl, rfl, by decide +kernel, rfl, by decide +kernel, by decide +kernel⟩
theorem oe_BadRoute {P : Program} {w : World} {K : PySem.W.Frag} {mg : Str → Option Value} {base : Heap} (T : Txt K mg) : ErrN P w K mg base "BadRoute" 1 ["sender", "goal"] :=
  errN_of (fj := [("sender", 1), ("goal", 2)]) T.e_BadRoute sc_BadRoute_init rfl (by decide) rfl rfl (by decide) (by decide) fun f cdv A outer s H E =>
    (pss_cons (ps_ost (pe_var (i := 0) rfl (by first | exact Or.inl rfl | exact Or.inr (Or.inl rfl) | exact Or.inr (Or.inr rfl))) (pe_var (i := 1) rfl (by first | exact Or.inl rfl | exact Or.inr (Or.inl rfl) | exact Or.inr (Or.inr rfl)))) (pss_cons (ps_ost (pe_var (i := 0) rfl (by first | exact Or.inl rfl | exact Or.inr (Or.inl rfl) | exact Or.inr (Or.inr rfl))) (pe_var (i := 2) rfl (by first | exact Or.inl rfl | exact Or.inr (Or.inl rfl) | exact Or.inr (Or.inr rfl)))) pss_nil))
theorem sc_BadLink_init : FnScope ["self", "index"] ["self", "index"] (defScope s_BadLink_init) := ⟨rfl, rfl, rfl, by decide +kernel, rfl, by decide +kernel, by decide +kernel⟩
theorem oe_BadLink {P : Program} {w : World} {K : PySem.W.Frag} {mg : Str → Option Value} {base : Heap} (T : Txt K mg) : ErrN P w K mg base "BadLink" 1 ["index"] :=
  errN_of (fj := [("index", 1)]) T.e_BadLink sc_BadLink_init rfl (by decide) rfl rfl (by decide) (by decide) fun f cdv A outer s H E =>
    (pss_cons (ps_ost (pe_var (i := 0) rfl (by first | exact Or.inl rfl | exact Or.inr (Or.inl rfl) | exact Or.inr (Or.inr rfl))) (pe_var (i := 1) rfl (by first | exact Or.inl rfl | exact Or.inr (Or.inl rfl) | exact Or.inr (Or.inr rfl)))) pss_nil)
theorem sc_BadSize_init : FnScope ["self", "size"] ["self", "size"] (defScope s_BadSize_init) := ⟨rfl, rfl, rfl, by decide +kernel, rfl, by decide +kernel, by decide +kernel⟩
theorem oe_BadSize {P : Program} {w : World} {K : PySem.W.Frag} {mg : Str → Option Value} {base : Heap} (T : Txt K mg) : ErrN P w K mg base "BadSize" 1 ["size"] :=
  errN_of (fj := [("size", 1)]) T.e_BadSize sc_BadSize_init rfl (by decide) rfl rfl (by decide) (by decide) fun f cdv A outer s H E =>
    (pss_cons (ps_ost (pe_var (i := 0) rfl (by first | exact Or.inl rfl | exact Or.inr (Or.inl rfl) | exact Or.inr (Or.inr rfl))) (pe_var (i := 1) rfl (by first | exact Or.inl rfl | exact Or.inr (Or.inl rfl) | exact Or.inr (Or.inr rfl)))) pss_nil)
theorem sc_NotConnected_init : FnScope ["self", "node"] ["self", "node"] (defScope s_NotConnected_init) := ⟨rfl, rfl, rfl, by decide +kernel, rfl, by decide +kernel, by decide +kernel⟩
theorem oe_NotConnected {P : Program} {w : World} {K : PySem.W.Frag} {mg : Str → Option Value} {base : Heap} (T : Txt K mg) : ErrN P w K mg base "NotConnected" 1 ["node"] :=
  errN_of (fj := [("node", 1)]) T.e_NotConnected sc_NotConnected_init rfl (by decide) rfl rfl (by decide) (by decide) fun f cdv A outer s H E =>
    (pss_cons (ps_ost (pe_var (i := 0) rfl (by first | exact Or.inl rfl | exact Or.inr (Or.inl rfl) | exact Or.inr (Or.inr rfl))) (pe_var (i := 1) rfl (by first | exact Or.inl rfl | exact Or.inr (Or.inl rfl) | exact Or.inr (Or.inr rfl)))) pss_nil)
theorem sc_law_net : FnScope ["row", "upto", "size", "left", "names", "links", "k", "a", "b"] ["row", "upto"] (defScope s_law_net) := ⟨rfl, rfl, rfl, by decide +kernel, rfl, by decide +kernel, by decide +kernel⟩
theorem ok_law_net {P : Program} {w : World} {K : PySem.W.Frag} {mg : Str → Option Value} {base : Heap} (T : Txt K mg) : Keeps P w K mg base "_law_net" 1 ["row", "upto"] 2 .ow m_law_net :=
  keeps_of T.d_law_net sc_law_net (by decide) fun f cdv A outer s H E hr =>
    (js_cons (js_set 2 (je_min2 T.z_min (ja_cons (je_var 1) (ja_cons (je_item (je_share (je_lst (md := .ow) (ja_cons je_int (ja_cons je_int (ja_cons je_int (ja_cons je_int (ja_cons je_int (ja_cons je_int (ja_cons je_int (ja_cons je_int ja_nil)))))))))) (je_item (je_var 0) je_int)) ja_nil))) sc_law_net.nd)
    (js_cons (js_set 3 (je_lc sc_law_net [("k", 6)] (ji_range1 (ja_cons (je_var 2) ja_nil) T.z_range) (fun _ _ _ _ _ => (jg_name 6 sc_law_net.nd)) (fun _ _ _ _ _ => jts_nil) (fun _ _ _ _ _ => (je_var 6))) sc_law_net.nd)
    (js_cons (js_setLcX 4 sc_law_net [("k", 6)] (ji_range1 (ja_cons (je_var 2) ja_nil) T.z_range) (fun _ _ _ _ _ => (jg_name 6 sc_law_net.nd)) (fun _ _ _ _ _ => (jx_pop 3 (je_mod (je_div (je_int_ T.z_int (ja_cons (je_item (je_var 0) (je_var 6)) ja_nil)) (je_max2 T.z_max (ja_cons je_int (ja_cons (je_var 6) ja_nil)))) (je_borrow (m1 := [.sh, .sh, .sh, .sh, .sh, .sh, .sh, .sh, .sh]) (je_len T.z_len (ja_cons (je_var 3) ja_nil)))))))
    (js_cons (js_set 5 (je_lst (md := .ow) ja_nil) sc_law_net.nd)
    (js_cons (js_for (ji_range2 (ja_cons je_int (ja_cons (je_var 2) ja_nil)) T.z_range) (jg_name 6 sc_law_net.nd) (jss_fgt [6, 7] (js_cons (js_set 7 (je_itemO 4 (je_mod (je_int_ T.z_int (ja_cons (je_item (je_var 0) (je_var 6)) ja_nil)) (je_var 6))) sc_law_net.nd)
    (js_one (js_app 5 (je_tup (ja_cons (je_min2 T.z_min (ja_cons (je_var 7) (ja_cons (je_itemO 4 (je_var 6)) ja_nil))) (ja_cons (je_max2 T.z_max (ja_cons (je_var 7) (ja_cons (je_itemO 4 (je_var 6)) ja_nil))) ja_nil))))))) (passes_of rfl))
    (js_cons (js_for (ji_range1 (ja_cons je_int ja_nil) T.z_range) (jg_name 6 sc_law_net.nd) (jss_fgt [6, 7, 8] (js_cons (js_set 7 (je_mod (je_int_ T.z_int (ja_cons (je_item (je_var 0) (je_add je_int (je_mulI je_int (je_var 6)))) ja_nil)) (je_var 2)) sc_law_net.nd)
    (js_cons (js_set 8 (je_mod (je_int_ T.z_int (ja_cons (je_item (je_var 0) (je_add je_int (je_mulI je_int (je_var 6)))) ja_nil)) (je_var 2)) sc_law_net.nd)
    (js_one (js_fgt [] (js_if (JW.jt (jw_and (jt_gt (je_item (je_var 0) (je_add je_int (je_mulI je_int (je_var 6)))) je_int) (jw_and (jt_ne hr.u (je_var 7) (je_var 8)) (jw_and1 (jt_borrow (m1 := [.sh, .sh, .sh, .sh, .sh, .sh, .sh, .sh, .sh]) (jt_notIn hr.u (je_tup (ja_cons (je_min2 T.z_min (ja_cons (je_var 7) (ja_cons (je_var 8) ja_nil))) (ja_cons (je_max2 T.z_max (ja_cons (je_var 7) (ja_cons (je_var 8) ja_nil))) ja_nil))) (je_var 5))))))) (js_one (js_app 5 (je_tup (ja_cons (je_min2 T.z_min (ja_cons (je_var 7) (ja_cons (je_var 8) ja_nil))) (ja_cons (je_max2 T.z_max (ja_cons (je_var 7) (ja_cons (je_var 8) ja_nil))) ja_nil))))) js_nil)))))) (passes_of rfl))
    (js_one (js_weak1 (m := [.sh, .sh, .sh, .ow, .ow, .ow, .sh, .sh, .sh]) (m1 := [.sh, .sh, .sh, .ow, .ow, .sh, .sh, .sh, .sh]) (js_ret (je_lst (md := .ow) (ja_cons (je_var 2) (ja_cons (je_share (je_sorted hr.u T.z_sorted (ja_cons (je_var 5) ja_nil))) ja_nil))))))))))))
theorem sc_law_near : FnScope ["size", "links", "near", "link", "k", "row"] ["size", "links"] (defScope s_law_near) := ⟨rfl, rfl, rfl, by decide +kernel, rfl, by decide +kernel, by decide +kernel⟩
theorem ok_law_near {P : Program} {w : World} {K : PySem.W.Frag} {mg : Str → Option Value} {base : Heap} (T : Txt K mg) : Keeps P w K mg base "_law_near" 1 ["size", "links"] 2 .ow m_law_near :=
  keeps_of T.d_law_near sc_law_near (by decide) fun f cdv A outer s H E hr =>
    (js_cons (js_setLcT 1 2 sc_law_near [("k", 4)] (ji_range1 (ja_cons (je_var 0) ja_nil) T.z_range) (fun _ _ _ _ _ => (jg_name 4 sc_law_near.nd)) (fun _ _ _ _ _ => jts_nil) (fun _ _ _ _ _ => (je_lstT 0)))
    (js_cons (js_for (ji_seq (je_var 1)) (jg_name 3 sc_law_near.nd) (jss_fgt [3] (js_cons (js_app2T 0 2 (je_item (je_var 3) je_int) (je_item (je_var 3) je_int))
    (js_one (js_app2T 0 2 (je_item (je_var 3) je_int) (je_item (je_var 3) je_int))))) (passes_of rfl))
    (js_one (js_weak1 (m := [.sh, .sh, .tr 2 none none, .sh, .sh, .sh]) (m1 := [.sh, .sh, .sh, .sh, .sh, .sh]) (js_ret (je_lc sc_law_near [("row", 5)] (ji_seq (je_var 2)) (fun _ _ _ _ _ => (jg_name 5 sc_law_near.nd)) (fun _ _ _ _ _ => jts_nil) (fun _ _ _ _ _ => (je_share (je_sorted hr.u T.z_sorted (ja_cons (je_var 5) ja_nil))))))))))
theorem sc_law_digits : FnScope ["cell", "sizes", "row", "rest", "seed", "k", "size", "twice"] ["cell", "sizes"] (defScope s_law_digits) := ⟨rfl, rfl, rfl, by decide +kernel, rfl, by decide +kernel, by decide +kernel⟩
theorem ok_law_digits {P : Program} {w : World} {K : PySem.W.Frag} {mg : Str → Option Value} {base : Heap} (T : Txt K mg) : Keeps P w K mg base "_law_digits" 1 ["cell", "sizes"] 2 .ow m_law_digits :=
  keeps_of T.d_law_digits sc_law_digits (by decide) fun f cdv A outer s H E hr =>
    (js_cons (js_set 2 (je_lst (md := .ow) ja_nil) sc_law_digits.nd)
    (js_cons (js_set 3 (je_int_ T.z_int (ja_cons (je_var 0) ja_nil)) sc_law_digits.nd)
    (js_cons (js_if (jt_ge (je_var 3) (je_pow je_int je_int)) (js_cons (js_set 3 (je_sub (je_var 3) (je_pow je_int je_int)) sc_law_digits.nd)
    (js_cons (js_for (ji_seq (je_var 1)) (jg_name 6 sc_law_digits.nd) (jss_fgt [6] (js_cons (js_app 2 (je_mod (je_int_ T.z_int (ja_cons (je_var 3) ja_nil)) (je_var 6)))
    (js_one (js_set 3 (je_div (je_int_ T.z_int (ja_cons (je_var 3) ja_nil)) (je_var 6)) sc_law_digits.nd)))) (passes_of rfl))
    (js_one (js_retV 2)))) js_nil)
    (js_cons (js_set 4 (je_mod (je_int_ T.z_int (ja_cons (je_var 3) ja_nil)) je_int) sc_law_digits.nd)
    (js_cons (js_for (ji_range1 (ja_cons (je_len T.z_len (ja_cons (je_var 1) ja_nil)) ja_nil) T.z_range) (jg_name 5 sc_law_digits.nd) (jss_fgt [5, 7] (js_cons (js_set 4 (je_mod (je_int_ T.z_int (ja_cons (je_add (je_add (je_mulI (je_var 4) je_int) (je_mulI je_int (je_var 5))) je_int) ja_nil)) je_int) sc_law_digits.nd)
    (js_cons (js_set 7 (je_mod (je_int_ T.z_int (ja_cons (je_mulI (je_var 4) (je_add (je_div (je_var 4) je_int) je_int)) ja_nil)) je_int) sc_law_digits.nd)
    (js_one (js_app 2 (je_mod (je_div (je_var 7) je_int) (je_item (je_var 1) (je_var 5)))))))) (passes_of rfl))
    (js_one (js_retV 2)))))))
theorem sc_law_all_routes : FnScope ["near", "u", "v", "found", "waiting", "turn", "route", "b"] ["near", "u", "v"] (defScope s_law_all_routes) := ⟨rfl, rfl, rfl, by decide +kernel, rfl, by decide +kernel, by decide +kernel⟩
theorem ok_law_all_routes {P : Program} {w : World} {K : PySem.W.Frag} {mg : Str → Option Value} {base : Heap} (T : Txt K mg) : Keeps P w K mg base "_law_all_routes" 1 ["near", "u", "v"] 3 .ow m_law_all_routes :=
  keeps_of T.d_law_all_routes sc_law_all_routes (by decide) fun f cdv A outer s H E hr =>
    (js_cons (js_set 3 (je_lst (md := .ow) ja_nil) sc_law_all_routes.nd)
    (js_cons (js_set 4 (je_lst (md := .ow) (ja_cons (je_tup (ja_cons (je_var 1) ja_nil)) ja_nil)) sc_law_all_routes.nd)
    (js_cons (js_for (ji_range1 (ja_cons je_int ja_nil) T.z_range) (jg_name 5 sc_law_all_routes.nd) (jss_fgt [5, 6, 7] (js_cons (js_if (jt_eq hr.u (je_borrow (m1 := [.sh, .sh, .sh, .sh, .sh, .sh, .sh, .sh]) (je_len T.z_len (ja_cons (je_var 4) ja_nil))) je_int) (js_one js_break) js_nil)
    (js_cons (js_setX 6 (jx_pop0 4) sc_law_all_routes.nd)
    (js_one (js_fgt [7] (js_if (jt_eq hr.u (je_item (je_var 6) (je_neg je_int)) (je_var 2)) (js_one (js_app 3 (je_var 6))) (js_one (js_for (ji_seq (je_item (je_var 0) (je_item (je_var 6) (je_neg je_int)))) (jg_name 7 sc_law_all_routes.nd) (jss_fgt [7] (js_one (js_fgt [] (js_if (jt_notIn hr.u (je_var 7) (je_var 6)) (js_one (js_app 4 (je_add (je_var 6) (je_tup (ja_cons (je_var 7) ja_nil))))) js_nil)))) (passes_of rfl))))))))) (passes_of rfl))
    (js_one (js_weak1 (m := [.sh, .sh, .sh, .ow, .ow, .sh, .sh, .sh]) (m1 := [.sh, .sh, .sh, .sh, .ow, .sh, .sh, .sh]) (js_ret (je_sorted hr.u T.z_sorted (ja_cons (je_var 3) ja_nil))))))))
theorem sc_law_menu : FnScope ["near", "row", "extra", "size", "rows", "left", "u", "line", "v", "routes", "digit", "mine", "k", "other"] ["near", "row", "extra"] (defScope s_law_menu) := ⟨rfl, rfl, rfl, by decide +kernel, rfl, by decide +kernel, by decide +kernel⟩
theorem ok_law_menu {P : Program} {w : World} {K : PySem.W.Frag} {mg : Str → Option Value} {base : Heap} (T : Txt K mg) : Keeps P w K mg base "_law_menu" 2 ["near", "row", "extra"] 3 .ow m_law_menu :=
  keeps_of T.d_law_menu sc_law_menu (by decide) fun f cdv A outer s H E hr =>
    (js_cons (js_set 3 (je_len T.z_len (ja_cons (je_var 0) ja_nil)) sc_law_menu.nd)
    (js_cons (js_set 4 (je_lst (md := .ow) ja_nil) sc_law_menu.nd)
    (js_cons (js_set 5 (je_var 2) sc_law_menu.nd)
    (js_cons (js_for (ji_range1 (ja_cons (je_var 3) ja_nil) T.z_range) (jg_name 6 sc_law_menu.nd) (jss_fgt [6, 7, 8, 9, 10, 11, 12, 13] (js_cons (js_set 7 (je_lst (md := .ow) ja_nil) sc_law_menu.nd)
    (js_cons (js_for (ji_range1 (ja_cons (je_var 3) ja_nil) T.z_range) (jg_name 8 sc_law_menu.nd) (jss_fgt [8, 9, 10, 11, 12, 13] (js_end (m1 := [.sh, .sh, .sh, .sh, .ow, .sh, .sh, .ow, .sh, .ow, .sh, .sh, .sh, .sh]) (m2 := [.sh, .sh, .sh, .sh, .ow, .sh, .sh, .ow, .sh, .sh, .sh, .sh, .sh, .sh]) (js_cons (js_set 9 (je_call (ok_law_all_routes T) (hr.mono (by decide)) (takes_of rfl rfl rfl rfl) (ja_cons (je_var 0) (ja_cons (je_var 6) (ja_cons (je_var 8) ja_nil)))) sc_law_menu.nd)
    (js_cons (js_set 10 (je_item (je_var 1) (je_add (je_add je_int (je_mulI je_int (je_var 6))) (je_var 8))) sc_law_menu.nd)
    (js_cons (js_fgt [12, 13] (js_if (jt_eq hr.u (je_item (je_var 1) je_int) je_int) (js_one (js_set 11 (je_cutLO 9 jo_none (jo_some (je_add je_int (je_var 5)))) sc_law_menu.nd)) (js_cons (js_set 11 (je_lst (md := .ow) (ja_cons (je_itemO 9 (je_mod (je_var 10) (je_borrow (m1 := [.sh, .sh, .sh, .sh, .sh, .sh, .sh, .sh, .sh, .sh, .sh, .sh, .sh, .sh]) (je_len T.z_len (ja_cons (je_var 9) ja_nil))))) ja_nil)) sc_law_menu.nd)
    (js_one (js_for (ji_range1 (ja_cons (je_div (je_var 10) je_int) ja_nil) T.z_range) (jg_name 12 sc_law_menu.nd) (jss_fgt [12, 13] (js_cons (js_set 13 (je_itemO 9 (je_mod (je_add (je_add (je_var 10) je_int) (je_var 12)) (je_borrow (m1 := [.sh, .sh, .sh, .sh, .sh, .sh, .sh, .sh, .sh, .sh, .sh, .sh, .sh, .sh]) (je_len T.z_len (ja_cons (je_var 9) ja_nil))))) sc_law_menu.nd)
    (js_one (js_fgt [] (js_if (JW.jt (jw_and (jt_gt (je_var 5) (je_sub (je_borrow (m1 := [.sh, .sh, .sh, .sh, .sh, .sh, .sh, .sh, .sh, .sh, .sh, .sh, .sh, .sh]) (je_len T.z_len (ja_cons (je_var 11) ja_nil))) je_int)) (jw_and1 (jt_borrow (m1 := [.sh, .sh, .sh, .sh, .sh, .sh, .sh, .sh, .sh, .sh, .sh, .sh, .sh, .sh]) (jt_notIn hr.u (je_var 13) (je_var 11)))))) (js_one (js_app 11 (je_var 13))) js_nil))))) (passes_of rfl))))))
    (js_cons (js_set 5 (je_sub (je_var 5) (je_sub (je_borrow (m1 := [.sh, .sh, .sh, .sh, .sh, .sh, .sh, .sh, .sh, .sh, .sh, .sh, .sh, .sh]) (je_len T.z_len (ja_cons (je_var 11) ja_nil))) je_int)) sc_law_menu.nd)
    (js_one (js_weak1 (m := [.sh, .sh, .sh, .sh, .ow, .sh, .sh, .ow, .sh, .ow, .sh, .ow, .sh, .sh]) (m1 := [.sh, .sh, .sh, .sh, .ow, .sh, .sh, .ow, .sh, .ow, .sh, .sh, .sh, .sh]) (js_app 7 (je_share (je_sorted hr.u T.z_sorted (ja_cons (je_var 11) ja_nil)))))))))))) (passes_of rfl))
    (js_one (js_weak1 (m := [.sh, .sh, .sh, .sh, .ow, .sh, .sh, .ow, .sh, .sh, .sh, .sh, .sh, .sh]) (m1 := [.sh, .sh, .sh, .sh, .ow, .sh, .sh, .sh, .sh, .sh, .sh, .sh, .sh, .sh]) (js_app 4 (je_var 7))))))) (passes_of rfl))
    (js_one (js_retV 4))))))
theorem sc_frozen : FnScope ["value", "item"] ["value"] (defScope s_frozen) := ⟨rfl, rfl, rfl, by decide +kernel, rfl, by decide +kernel, by decide +kernel⟩
theorem okr_frozen {P : Program} {w : World} {K : PySem.W.Frag} {mg : Str → Option Value} {base : Heap} (T : Txt K mg) : ∀ n, Keeps P w K mg base "frozen" (0 + n) ["value"] 1 .sh (r_frozen n)
  | 0 => keeps_er T.d_frozen
  | n + 1 => by
    have IH := okr_frozen (P := P) (w := w) (base := base) T n
    exact keeps_of T.d_frozen sc_frozen (by decide) fun f cdv A outer s H E hr =>
    (js_cons (js_if (jt_tr (je_isi2 "list" "tuple" T.z_isinstance T.z_list T.z_tuple (je_var 0))) (js_one (js_ret (je_tuple T.z_tuple (ja_cons (je_share (je_lc sc_frozen [("item", 1)] (ji_seq (je_var 0)) (fun _ _ _ _ _ => (jg_name 1 sc_frozen.nd)) (fun _ _ _ _ _ => jts_nil) (fun _ _ _ _ _ => (je_call IH (hr.mono (Nat.le_refl _)) takesF (ja_cons (je_var 1) ja_nil))))) ja_nil)))) js_nil)
    (js_one (js_retV 0)))
theorem ok_frozen {P : Program} {w : World} {K : PySem.W.Frag} {mg : Str → Option Value} {base : Heap} (T : Txt K mg) : Keeps P w K mg base "frozen" 6 ["value"] 1 .sh m_frozen := okr_frozen T 6
theorem sc_route_lanes : FnScope ["route", "k"] ["route"] (defScope s_route_lanes) := ⟨rfl, rfl, rfl, by decide +kernel, rfl, by decide +kernel, by decide +kernel⟩
theorem ok_route_lanes {P : Program} {w : World} {K : PySem.W.Frag} {mg : Str → Option Value} {base : Heap} (T : Txt K mg) : Keeps P w K mg base "route_lanes" 1 ["route"] 1 .sh m_route_lanes :=
  keeps_of T.d_route_lanes sc_route_lanes (by decide) fun f cdv A outer s H E hr =>
    (js_one (js_ret (je_tuple T.z_tuple (ja_cons (je_share (je_lc sc_route_lanes [("k", 1)] (ji_range1 (ja_cons (je_sub (je_len T.z_len (ja_cons (je_var 0) ja_nil)) je_int) ja_nil) T.z_range) (fun _ _ _ _ _ => (jg_name 1 sc_route_lanes.nd)) (fun _ _ _ _ _ => jts_nil) (fun _ _ _ _ _ => (je_tup (ja_cons (je_item (je_var 0) (je_var 1)) (ja_cons (je_item (je_var 0) (je_add (je_var 1) je_int)) ja_nil)))))) ja_nil))))
theorem sc_is_number : FnScope ["value"] ["value"] (defScope s_is_number) := ⟨rfl, rfl, rfl, by decide +kernel, rfl, by decide +kernel, by decide +kernel⟩
theorem ok_is_number {P : Program} {w : World} {K : PySem.W.Frag} {mg : Str → Option Value} {base : Heap} (T : Txt K mg) : Keeps P w K mg base "is_number" 1 ["value"] 1 .sh m_is_number :=
  keeps_of T.d_is_number sc_is_number (by decide) fun f cdv A outer s H E hr =>
    (js_one (js_ret (je_and (je_isi "int" T.z_isinstance T.z_int (je_var 0)) (je_last (je_not (je_isi "bool" T.z_isinstance T.z_bool (je_var 0)))))))
theorem sc_is_route : FnScope ["net", "value", "sender", "goal", "route", "a", "b", "node"] ["net", "value", "sender", "goal"] (defScope s_is_route) := ⟨rfl, rfl, rfl, by decide +kernel, rfl, by decide +kernel, by decide +kernel⟩
theorem ok_is_route {P : Program} {w : World} {K : PySem.W.Frag} {mg : Str → Option Value} {base : Heap} (T : Txt K mg) : Keeps P w K mg base "is_route" 7 ["net", "value", "sender", "goal"] 4 .sh m_is_route :=
  keeps_of T.d_is_route sc_is_route (by decide) fun f cdv A outer s H E hr =>
    (js_cons (js_set 4 (je_call (ok_frozen T) (hr.mono (by decide)) (takes_of rfl rfl rfl rfl) (ja_cons (je_var 1) ja_nil)) sc_is_route.nd)
    (js_cons (js_if (JW.jt (jw_or (jt_not (jt_tr (je_var 4))) (jw_or1 (jt_not (jt_tr (je_all T.z_all (ja_cons (je_share (je_lc sc_is_route [("node", 7)] (ji_seq (je_var 4)) (fun _ _ _ _ _ => (jg_name 7 sc_is_route.nd)) (fun _ _ _ _ _ => jts_nil) (fun _ _ _ _ _ => (je_and (je_call (ok_is_number T) (hr.mono (by decide)) takesF (ja_cons (je_var 7) ja_nil)) (je_last (je_chain op_le op_lt opd_P opd_P je_int (je_var 7) (je_fld "Net" T.f_Net_size (je_var 0)))))))) ja_nil))))))) (js_one (js_ret je_bl)) js_nil)
    (js_cons (js_if (JW.jt (jw_or (jt_ne hr.u (je_item (je_var 4) je_int) (je_var 2)) (jw_or (jt_ne hr.u (je_item (je_var 4) (je_neg je_int)) (je_var 3)) (jw_or1 (jt_ne hr.u (je_lenSet T.z_len T.z_set (je_var 4)) (je_len T.z_len (ja_cons (je_var 4) ja_nil))))))) (js_one (js_ret je_bl)) js_nil)
    (js_one (js_ret (je_all T.z_all (ja_cons (je_share (je_lc sc_is_route [("a", 5), ("b", 6)] (ji_seq (je_call (ok_route_lanes T) (hr.mono (by decide)) (takes_of rfl rfl rfl rfl) (ja_cons (je_var 4) ja_nil))) (fun _ _ _ _ _ => (jg_tup2 (jg_name 5 sc_is_route.nd) (jg_name 6 sc_is_route.nd))) (fun _ _ _ _ _ => jts_nil) (fun _ _ _ _ _ => (je_in hr.u (je_var 6) (je_item (je_fld "Net" T.f_Net_near (je_var 0)) (je_var 5)))))) ja_nil)))))))
theorem sc_checked_menu : FnScope ["net", "rows", "u", "v", "routes", "right", "row", "route"] ["net", "rows"] (defScope s_checked_menu) := ⟨rfl, rfl, rfl, by decide +kernel, rfl, by decide +kernel, by decide +kernel⟩
theorem ok_checked_menu {P : Program} {w : World} {K : PySem.W.Frag} {mg : Str → Option Value} {base : Heap} (T : Txt K mg) : Keeps P w K mg base "checked_menu" 8 ["net", "rows"] 2 .sh m_checked_menu :=
  keeps_of T.d_checked_menu sc_checked_menu (by decide) fun f cdv A outer s H E hr =>
    (js_cons (js_set 1 (je_call (ok_frozen T) (hr.mono (by decide)) (takes_of rfl rfl rfl rfl) (ja_cons (je_var 1) ja_nil)) sc_checked_menu.nd)
    (js_cons (js_for (ji_range1 (ja_cons (je_fld "Net" T.f_Net_size (je_var 0)) ja_nil) T.z_range) (jg_name 2 sc_checked_menu.nd) (jss_fgt [2, 3, 4, 5] (js_one (js_for (ji_range1 (ja_cons (je_fld "Net" T.f_Net_size (je_var 0)) ja_nil) T.z_range) (jg_name 3 sc_checked_menu.nd) (jss_fgt [3, 4, 5] (js_cons (js_set 4 (je_item (je_item (je_var 1) (je_var 2)) (je_var 3)) sc_checked_menu.nd)
    (js_cons (js_set 5 (je_all T.z_all (ja_cons (je_share (je_lc sc_checked_menu [("route", 7)] (ji_seq (je_var 4)) (fun _ _ _ _ _ => (jg_name 7 sc_checked_menu.nd)) (fun _ _ _ _ _ => jts_nil) (fun _ _ _ _ _ => (je_call (ok_is_route T) (hr.mono (by decide)) takesF (ja_cons (je_var 0) (ja_cons (je_var 7) (ja_cons (je_var 2) (ja_cons (je_var 3) ja_nil)))))))) ja_nil)) sc_checked_menu.nd)
    (js_one (js_if (JW.jt (jw_or (jt_not (jt_tr (je_var 4))) (jw_or (jt_not (jt_tr (je_var 5))) (jw_or1 (jt_ne hr.u (je_lenSetT (hu := hu64 hr.u) T.z_len T.z_set (je_var 4)) (je_len T.z_len (ja_cons (je_var 4) ja_nil))))))) (js_one (js_raiseN (oe_BadRoute T) (hr.mono (by decide)) (takes_of rfl rfl rfl rfl) (ja_cons (je_var 2) (ja_cons (je_var 3) ja_nil)))) js_nil))))) (passes_of rfl)))) (passes_of rfl))
    (js_one (js_ret (je_tuple T.z_tuple (ja_cons (je_share (je_lc sc_checked_menu [("row", 6)] (ji_seq (je_var 1)) (fun _ _ _ _ _ => (jg_name 6 sc_checked_menu.nd)) (fun _ _ _ _ _ => jts_nil) (fun _ _ _ _ _ => (je_tuple T.z_tuple (ja_cons (je_share (je_lcB sc_checked_menu [("routes", 4)] (ji_seq (je_var 6)) (fun _ _ _ _ _ => (jg_name 4 sc_checked_menu.nd)) (fun _ _ _ _ _ => jts_nil) (fun _ _ _ _ _ => (je_tuple T.z_tuple (ja_cons (je_share (je_sorted hr.u T.z_sorted (ja_cons (je_var 4) ja_nil))) ja_nil))))) ja_nil))))) ja_nil))))))
theorem sc_Menu_init : FnScope ["self", "net", "rows"] ["self", "net", "rows"] (defScope s_Menu_init) := ⟨rfl, rfl, rfl, by decide +kernel, rfl, by decide +kernel, by decide +kernel⟩
theorem ok_Menu_init {P : Program} {w : World} {K : PySem.W.Frag} {mg : Str → Option Value} {base : Heap} (T : Txt K mg) : KeepsI P w K mg base "Menu" 9 ["self", "net", "rows"] 2 m_Menu_init :=
  keepsI_of T.d_Menu_init sc_Menu_init (by decide) rfl fun f p cdv A outer s H E hr =>
    (js_cons (js_fld "Menu" 0 T.f_Menu_net (je_var 1))
    (js_one (js_fld "Menu" 0 T.f_Menu_rows (je_call (ok_checked_menu T) (hr.mono (by decide)) (takes_of rfl rfl rfl rfl) (ja_cons (je_var 1) (ja_cons (je_var 2) ja_nil))))))
theorem sc_law_lanes : FnScope ["near", "lanes", "a", "b"] ["near"] (defScope s_law_lanes) := ⟨rfl, rfl, rfl, by decide +kernel, rfl, by decide +kernel, by decide +kernel⟩
theorem ok_law_lanes {P : Program} {w : World} {K : PySem.W.Frag} {mg : Str → Option Value} {base : Heap} (T : Txt K mg) : Keeps P w K mg base "_law_lanes" 1 ["near"] 1 .ow m_law_lanes :=
  keeps_of T.d_law_lanes sc_law_lanes (by decide) fun f cdv A outer s H E hr =>
    (js_cons (js_set 1 (je_lst (md := .ow) ja_nil) sc_law_lanes.nd)
    (js_cons (js_for (ji_range1 (ja_cons (je_len T.z_len (ja_cons (je_var 0) ja_nil)) ja_nil) T.z_range) (jg_name 2 sc_law_lanes.nd) (jss_fgt [2, 3] (js_one (js_for (ji_seq (je_item (je_var 0) (je_var 2))) (jg_name 3 sc_law_lanes.nd) (jss_fgt [3] (js_one (js_app 1 (je_tup (ja_cons (je_var 2) (ja_cons (je_var 3) ja_nil)))))) (passes_of rfl)))) (passes_of rfl))
    (js_one (js_retV 1))))
theorem sc_law_places : FnScope ["near", "k"] ["near"] (defScope s_law_places) := ⟨rfl, rfl, rfl, by decide +kernel, rfl, by decide +kernel, by decide +kernel⟩
theorem ok_law_places {P : Program} {w : World} {K : PySem.W.Frag} {mg : Str → Option Value} {base : Heap} (T : Txt K mg) : Keeps P w K mg base "_law_places" 2 ["near"] 1 .ow m_law_places :=
  keeps_of T.d_law_places sc_law_places (by decide) fun f cdv A outer s H E hr =>
    (js_one (js_ret (je_addL (je_share (je_lc sc_law_places [("k", 1)] (ji_range1 (ja_cons (je_len T.z_len (ja_cons (je_var 0) ja_nil)) ja_nil) T.z_range) (fun _ _ _ _ _ => (jg_name 1 sc_law_places.nd)) (fun _ _ _ _ _ => jts_nil) (fun _ _ _ _ _ => (je_tup (ja_cons (je_var 1) ja_nil))))) (je_share (je_call (ok_law_lanes T) (hr.mono (by decide)) (takes_of rfl rfl rfl rfl) (ja_cons (je_var 0) ja_nil))))))
theorem sc_law_whole : FnScope ["value"] ["value"] (defScope s_law_whole) := ⟨rfl, rfl, rfl, by decide +kernel, rfl, by decide +kernel, by decide +kernel⟩
theorem ok_law_whole {P : Program} {w : World} {K : PySem.W.Frag} {mg : Str → Option Value} {base : Heap} (T : Txt K mg) : Keeps P w K mg base "_law_whole" 1 ["value"] 1 .sh m_law_whole :=
  keeps_of T.d_law_whole sc_law_whole (by decide) fun f cdv A outer s H E hr =>
    (js_one (js_ret (je_and (je_isi "int" T.z_isinstance T.z_int (je_var 0)) (je_last (je_not (je_isi "bool" T.z_isinstance T.z_bool (je_var 0)))))))
theorem sc_law_same : FnScope ["value", "due", "k"] ["value", "due"] (defScope s_law_same) := ⟨rfl, rfl, rfl, by decide +kernel, rfl, by decide +kernel, by decide +kernel⟩
theorem okr_law_same {P : Program} {w : World} {K : PySem.W.Frag} {mg : Str → Option Value} {base : Heap} (T : Txt K mg) : ∀ n, Keeps P w K mg base "_law_same" (1 + n) ["value", "due"] 2 .sh (r_law_same n)
  | 0 => keeps_er T.d_law_same
  | n + 1 => by
    have IH := okr_law_same (P := P) (w := w) (base := base) T n
    exact keeps_of T.d_law_same sc_law_same (by decide) fun f cdv A outer s H E hr =>
    (js_cons (js_if (JW.jt (jw_or (jt_tr (je_isi "tuple" T.z_isinstance T.z_tuple (je_var 1))) (jw_or1 (jt_tr (je_isi "list" T.z_isinstance T.z_list (je_var 1)))))) (js_cons (js_if (JW.jt (jw_or (jt_not (jt_tr (je_isi "tuple" T.z_isinstance T.z_tuple (je_var 0)))) (jw_or1 (jt_ne hr.u (je_len T.z_len (ja_cons (je_var 0) ja_nil)) (je_len T.z_len (ja_cons (je_var 1) ja_nil)))))) (js_one (js_ret je_bl)) js_nil)
    (js_cons (js_for (ji_range1 (ja_cons (je_len T.z_len (ja_cons (je_var 1) ja_nil)) ja_nil) T.z_range) (jg_name 2 sc_law_same.nd) (jss_fgt [2] (js_one (js_if (jt_not (jt_tr (je_call IH (hr.mono (Nat.le_refl _)) (takes_of rfl rfl rfl rfl) (ja_cons (je_item (je_var 0) (je_var 2)) (ja_cons (je_item (je_var 1) (je_var 2)) ja_nil))))) (js_one (js_ret je_bl)) js_nil))) (passes_of rfl))
    (js_one (js_ret je_bl)))) js_nil)
    (js_cons (js_if (jt_isN (je_var 1)) (js_one (js_ret (je_isN (je_var 0)))) js_nil)
    (js_cons (js_if (jt_isB (je_var 1)) (js_one (js_ret (je_isB (je_var 0)))) js_nil)
    (js_cons (js_if (jt_isB (je_var 1)) (js_one (js_ret (je_isB (je_var 0)))) js_nil)
    (js_cons (js_if (jt_tr (je_isi "str" T.z_isinstance T.z_str (je_var 1))) (js_one (js_ret (je_and (je_isi "str" T.z_isinstance T.z_str (je_var 0)) (je_last (je_eq hr.u (je_var 0) (je_var 1)))))) js_nil)
    (js_one (js_ret (je_and (je_call (ok_law_whole T) (hr.mono (Nat.le_trans (show 1 ≤ 1 by decide) (Nat.le_add_right 1 n))) (takes_of rfl rfl rfl rfl) (ja_cons (je_var 0) ja_nil)) (je_last (je_eq hr.u (je_var 0) (je_var 1)))))))))))
theorem ok_law_same {P : Program} {w : World} {K : PySem.W.Frag} {mg : Str → Option Value} {base : Heap} (T : Txt K mg) : Keeps P w K mg base "_law_same" 7 ["value", "due"] 2 .sh m_law_same := okr_law_same T 6
theorem sc_law_cell : FnScope ["script", "k", "seed", "cell"] ["script", "k"] (defScope s_law_cell) := ⟨rfl, rfl, rfl, by decide +kernel, rfl, by decide +kernel, by decide +kernel⟩
theorem ok_law_cell {P : Program} {w : World} {K : PySem.W.Frag} {mg : Str → Option Value} {base : Heap} (T : Txt K mg) : Keeps P w K mg base "_law_cell" 1 ["script", "k"] 2 .sh m_law_cell :=
  keeps_of T.d_law_cell sc_law_cell (by decide) fun f cdv A outer s H E hr =>
    (js_cons (js_if (jt_lt (je_var 1) (je_len T.z_len (ja_cons (je_var 0) ja_nil))) (js_one (js_ret (je_item (je_var 0) (je_var 1)))) js_nil)
    (js_cons (js_set 2 je_int sc_law_cell.nd)
    (js_cons (js_for (ji_seq (je_var 0)) (jg_name 3 sc_law_cell.nd) (jss_fgt [3] (js_one (js_set 2 (je_mod (je_int_ T.z_int (ja_cons (je_add (je_mulI (je_var 2) je_int) (je_mod (je_int_ T.z_int (ja_cons (je_var 3) ja_nil)) je_int)) ja_nil)) je_int) sc_law_cell.nd))) (passes_of rfl))
    (js_one (js_ret (je_mod (je_int_ T.z_int (ja_cons (je_mulI (je_mulI (je_add (je_var 2) je_int) (je_add (je_var 1) je_int)) je_int) ja_nil)) je_int))))))
theorem sc_is_link : FnScope ["size", "link", "node"] ["size", "link"] (defScope s_is_link) := ⟨rfl, rfl, rfl, by decide +kernel, rfl, by decide +kernel, by decide +kernel⟩
theorem ok_is_link {P : Program} {w : World} {K : PySem.W.Frag} {mg : Str → Option Value} {base : Heap} (T : Txt K mg) : Keeps P w K mg base "is_link" 2 ["size", "link"] 2 .sh m_is_link :=
  keeps_of T.d_is_link sc_is_link (by decide) fun f cdv A outer s H E hr =>
    (js_cons (js_if (JW.jt (jw_or (jt_ne hr.u (je_len T.z_len (ja_cons (je_var 1) ja_nil)) je_int) (jw_or1 (jt_eq hr.u (je_item (je_var 1) je_int) (je_item (je_var 1) je_int))))) (js_one (js_ret je_bl)) js_nil)
    (js_one (js_ret (je_all T.z_all (ja_cons (je_share (je_lc sc_is_link [("node", 2)] (ji_seq (je_var 1)) (fun _ _ _ _ _ => (jg_name 2 sc_is_link.nd)) (fun _ _ _ _ _ => jts_nil) (fun _ _ _ _ _ => (je_and (je_call (ok_is_number T) (hr.mono (by decide)) takesF (ja_cons (je_var 2) ja_nil)) (je_last (je_chain op_le op_lt opd_P opd_P je_int (je_var 2) (je_var 0))))))) ja_nil)))))
theorem sc_checked_links : FnScope ["size", "links", "index", "link", "a", "b"] ["size", "links"] (defScope s_checked_links) := ⟨rfl, rfl, rfl, by decide +kernel, rfl, by decide +kernel, by decide +kernel⟩
theorem ok_checked_links {P : Program} {w : World} {K : PySem.W.Frag} {mg : Str → Option Value} {base : Heap} (T : Txt K mg) : Keeps P w K mg base "checked_links" 3 ["size", "links"] 2 .sh m_checked_links :=
  keeps_of T.d_checked_links sc_checked_links (by decide) fun f cdv A outer s H E hr =>
    (js_cons (js_for (ji_enum (ja_cons (je_var 1) ja_nil) T.z_enumerate) (jg_tup2 (jg_name 2 sc_checked_links.nd) (jg_name 3 sc_checked_links.nd)) (jss_fgt [2, 3] (js_one (js_if (jt_not (jt_tr (je_call (ok_is_link T) (hr.mono (by decide)) (takes_of rfl rfl rfl rfl) (ja_cons (je_var 0) (ja_cons (je_var 3) ja_nil))))) (js_one (js_raiseN (oe_BadLink T) (hr.mono (by decide)) (takes_of rfl rfl rfl rfl) (ja_cons (je_var 2) ja_nil))) js_nil))) (passes_of rfl))
    (js_one (js_ret (je_tuple T.z_tuple (ja_cons (je_share (je_sortSc (hr := hr.u) (hmS := T.z_sorted) sc_checked_links [("a", 4), ("b", 5)] (ji_seq (je_var 1)) (fun _ _ _ _ _ => (jg_tup2 (jg_name 4 sc_checked_links.nd) (jg_name 5 sc_checked_links.nd))) (fun _ _ _ _ _ => jts_nil) (fun _ _ _ _ _ => (je_tup (ja_cons (je_min2 T.z_min (ja_cons (je_var 4) (ja_cons (je_var 5) ja_nil))) (ja_cons (je_max2 T.z_max (ja_cons (je_var 4) (ja_cons (je_var 5) ja_nil))) ja_nil)))))) ja_nil)))))
theorem sc_near_nodes : FnScope ["size", "links", "near", "a", "b", "node", "row"] ["size", "links"] (defScope s_near_nodes) := ⟨rfl, rfl, rfl, by decide +kernel, rfl, by decide +kernel, by decide +kernel⟩
theorem ok_near_nodes {P : Program} {w : World} {K : PySem.W.Frag} {mg : Str → Option Value} {base : Heap} (T : Txt K mg) : Keeps P w K mg base "near_nodes" 1 ["size", "links"] 2 .sh m_near_nodes :=
  keeps_of T.d_near_nodes sc_near_nodes (by decide) fun f cdv A outer s H E hr =>
    (js_cons (js_setLcT 1 2 sc_near_nodes [("node", 5)] (ji_range1 (ja_cons (je_var 0) ja_nil) T.z_range) (fun _ _ _ _ _ => (jg_name 5 sc_near_nodes.nd)) (fun _ _ _ _ _ => jts_nil) (fun _ _ _ _ _ => (je_lstT 0)))
    (js_cons (js_for (ji_seq (je_var 1)) (jg_tup2 (jg_name 3 sc_near_nodes.nd) (jg_name 4 sc_near_nodes.nd)) (jss_fgt [3, 4] (js_cons (js_app2T 0 2 (je_var 3) (je_var 4))
    (js_one (js_app2T 0 2 (je_var 4) (je_var 3))))) (passes_of rfl))
    (js_one (js_weak1 (m := [.sh, .sh, .tr 2 none none, .sh, .sh, .sh, .sh]) (m1 := [.sh, .sh, .sh, .sh, .sh, .sh, .sh]) (js_ret (je_tuple T.z_tuple (ja_cons (je_share (je_lc sc_near_nodes [("row", 6)] (ji_seq (je_var 2)) (fun _ _ _ _ _ => (jg_name 6 sc_near_nodes.nd)) (fun _ _ _ _ _ => jts_nil) (fun _ _ _ _ _ => (je_tuple T.z_tuple (ja_cons (je_share (je_sorted hr.u T.z_sorted (ja_cons (je_var 6) ja_nil))) ja_nil))))) ja_nil)))))))
theorem sc_lanes_of : FnScope ["near", "a", "b"] ["near"] (defScope s_lanes_of) := ⟨rfl, rfl, rfl, by decide +kernel, rfl, by decide +kernel, by decide +kernel⟩
theorem ok_lanes_of {P : Program} {w : World} {K : PySem.W.Frag} {mg : Str → Option Value} {base : Heap} (T : Txt K mg) : Keeps P w K mg base "lanes_of" 1 ["near"] 1 .sh m_lanes_of :=
  keeps_of T.d_lanes_of sc_lanes_of (by decide) fun f cdv A outer s H E hr =>
    (js_one (js_ret (je_tuple T.z_tuple (ja_cons (je_share (je_lc2 sc_lanes_of [("a", 1), ("b", 2)] [2] (ji_range1 (ja_cons (je_len T.z_len (ja_cons (je_var 0) ja_nil)) ja_nil) T.z_range) (fun _ _ _ _ _ => (jg_name 1 sc_lanes_of.nd)) (fun _ _ _ _ _ => jts_nil) (fun _ _ _ _ _ => (ji_seq (je_item (je_var 0) (je_var 1)))) (fun _ _ _ _ _ => (jg_name 2 sc_lanes_of.nd)) (fun _ _ _ _ _ => jts_nil) (fun _ _ _ _ _ => (je_tup (ja_cons (je_var 1) (ja_cons (je_var 2) ja_nil)))))) ja_nil))))
theorem sc_reached : FnScope ["size", "links", "start", "known", "waiting", "node", "a", "b"] ["size", "links", "start"] (defScope s_reached) := ⟨rfl, rfl, rfl, by decide +kernel, rfl, by decide +kernel, by decide +kernel⟩
theorem ok_reached {P : Program} {w : World} {K : PySem.W.Frag} {mg : Str → Option Value} {base : Heap} (T : Txt K mg) : Keeps P w K mg base "reached" 1 ["size", "links", "start"] 3 .sh m_reached :=
  keeps_of T.d_reached sc_reached (by decide) fun f cdv A outer s H E hr =>
    (js_cons (js_set 3 (je_lc sc_reached [("node", 5)] (ji_range1 (ja_cons (je_var 0) ja_nil) T.z_range) (fun _ _ _ _ _ => (jg_name 5 sc_reached.nd)) (fun _ _ _ _ _ => jts_nil) (fun _ _ _ _ _ => je_bl)) sc_reached.nd)
    (js_cons (js_setix 3 je_bl (je_var 2))
    (js_cons (js_set 4 (je_lst (md := .ow) (ja_cons (je_var 2) ja_nil)) sc_reached.nd)
    (js_cons (js_while (jt_borrow (m1 := [.sh, .sh, .sh, .sh, .sh, .sh, .sh, .sh]) (jt_tr (je_var 4))) (jss_fgt [5, 6, 7] (js_cons (js_setX 5 (jx_pop0 4) sc_reached.nd)
    (js_one (js_for (ji_seq (je_var 1)) (jg_tup2 (jg_name 6 sc_reached.nd) (jg_name 7 sc_reached.nd)) (jss_fgt [6, 7] (js_cons (js_fgt [] (js_if (JW.jt (jw_and (jt_eq hr.u (je_var 6) (je_var 5)) (jw_and1 (jt_not (jt_tr (je_itemO 3 (je_var 7))))))) (js_cons (js_setix 3 je_bl (je_var 7))
    (js_one (js_app 4 (je_var 7)))) js_nil))
    (js_one (js_fgt [] (js_if (JW.jt (jw_and (jt_eq hr.u (je_var 7) (je_var 5)) (jw_and1 (jt_not (jt_tr (je_itemO 3 (je_var 6))))))) (js_cons (js_setix 3 je_bl (je_var 6))
    (js_one (js_app 4 (je_var 6)))) js_nil))))) (passes_of rfl))))) (passes_of rfl))
    (js_one (js_ret (je_tuple T.z_tuple (ja_cons (je_share (je_lc sc_reached [("node", 5)] (ji_range1 (ja_cons (je_var 0) ja_nil) T.z_range) (fun _ _ _ _ _ => (jg_name 5 sc_reached.nd)) (fun _ _ _ _ _ => (jts_one (jt_tr (je_itemO 3 (je_var 5))))) (fun _ _ _ _ _ => (je_var 5)))) ja_nil))))))))
theorem sc_Net_init : FnScope ["self", "size", "links", "known", "node"] ["self", "size", "links"] (defScope s_Net_init) := ⟨rfl, rfl, rfl, by decide +kernel, rfl, by decide +kernel, by decide +kernel⟩
theorem ok_Net_init {P : Program} {w : World} {K : PySem.W.Frag} {mg : Str → Option Value} {base : Heap} (T : Txt K mg) : KeepsI P w K mg base "Net" 7 ["self", "size", "links"] 2 m_Net_init :=
  keepsI_of T.d_Net_init sc_Net_init (by decide) rfl fun f p cdv A outer s H E hr =>
    (js_cons (js_if (jt_not (jt_chain op_le op_le opd_P opd_P je_int (je_var 1) (je_globI T.c_MOST_NODES))) (js_one (js_raiseN (oe_BadSize T) (hr.mono (by decide)) (takes_of rfl rfl rfl rfl) (ja_cons (je_var 1) ja_nil))) js_nil)
    (js_cons (js_fld "Net" 0 T.f_Net_size (je_var 1))
    (js_cons (js_fld "Net" 0 T.f_Net_links (je_call (ok_checked_links T) (hr.mono (by decide)) (takes_of rfl rfl rfl rfl) (ja_cons (je_var 1) (ja_cons (je_call (ok_frozen T) (hr.mono (by decide)) (takes_of rfl rfl rfl rfl) (ja_cons (je_var 2) ja_nil)) ja_nil))))
    (js_cons (js_fld "Net" 0 T.f_Net_near (je_call (ok_near_nodes T) (hr.mono (by decide)) (takes_of rfl rfl rfl rfl) (ja_cons (je_var 1) (ja_cons (je_fldO "Net" 0 T.f_Net_links) ja_nil))))
    (js_cons (js_fld "Net" 0 T.f_Net_lane_row (je_call (ok_lanes_of T) (hr.mono (by decide)) (takes_of rfl rfl rfl rfl) (ja_cons (je_fldO "Net" 0 T.f_Net_near) ja_nil)))
    (js_cons (js_set 3 (je_call (ok_reached T) (hr.mono (by decide)) (takes_of rfl rfl rfl rfl) (ja_cons (je_var 1) (ja_cons (je_fldO "Net" 0 T.f_Net_links) (ja_cons je_int ja_nil)))) sc_Net_init.nd)
    (js_one (js_for (ji_range1 (ja_cons (je_var 1) ja_nil) T.z_range) (jg_name 4 sc_Net_init.nd) (jss_fgt [4] (js_one (js_if (jt_notIn hr.u (je_var 4) (je_var 3)) (js_one (js_raiseN (oe_NotConnected T) (hr.mono (by decide)) (takes_of rfl rfl rfl rfl) (ja_cons (je_var 4) ja_nil))) js_nil))) (passes_of rfl)))))))))
theorem sc_law_gcd : FnScope ["a", "b", "one", "two", "step", "rest"] ["a", "b"] (defScope s_law_gcd) := ⟨rfl, rfl, rfl, by decide +kernel, rfl, by decide +kernel, by decide +kernel⟩
theorem ok_law_gcd {P : Program} {w : World} {K : PySem.W.Frag} {mg : Str → Option Value} {base : Heap} (T : Txt K mg) : Keeps P w K mg base "_law_gcd" 1 ["a", "b"] 2 .sh m_law_gcd :=
  keeps_of T.d_law_gcd sc_law_gcd (by decide) fun f cdv A outer s H E hr =>
    (js_cons (js_set 2 (je_abs T.z_abs (ja_cons (je_int_ T.z_int (ja_cons (je_var 0) ja_nil)) ja_nil)) sc_law_gcd.nd)
    (js_cons (js_set 3 (je_abs T.z_abs (ja_cons (je_int_ T.z_int (ja_cons (je_var 1) ja_nil)) ja_nil)) sc_law_gcd.nd)
    (js_cons (js_for (ji_range1 (ja_cons je_int ja_nil) T.z_range) (jg_name 4 sc_law_gcd.nd) (jss_fgt [4, 5] (js_cons (js_if (jt_eq hr.u (je_var 3) je_int) (js_one js_break) js_nil)
    (js_cons (js_set 5 (je_mod (je_int_ T.z_int (ja_cons (je_var 2) ja_nil)) (je_var 3)) sc_law_gcd.nd)
    (js_cons (js_set 2 (je_var 3) sc_law_gcd.nd)
    (js_one (js_set 3 (je_var 5) sc_law_gcd.nd)))))) (passes_of rfl))
    (js_one (js_retV 2)))))
theorem sc_law_fraction : FnScope ["top", "bottom", "common"] ["top", "bottom"] (defScope s_law_fraction) := ⟨rfl, rfl, rfl, by decide +kernel, rfl, by decide +kernel, by decide +kernel⟩
theorem okr_law_fraction {P : Program} {w : World} {K : PySem.W.Frag} {mg : Str → Option Value} {base : Heap} (T : Txt K mg) : ∀ n, Keeps P w K mg base "_law_fraction" (1 + n) ["top", "bottom"] 2 .sh (r_law_fraction n)
  | 0 => keeps_er T.d_law_fraction
  | n + 1 => by
    have IH := okr_law_fraction (P := P) (w := w) (base := base) T n
    exact keeps_of T.d_law_fraction sc_law_fraction (by decide) fun f cdv A outer s H E hr =>
    (js_cons (js_if (jt_lt (je_var 1) je_int) (js_one (js_ret (je_call IH (hr.mono (Nat.le_refl _)) (takes_of rfl rfl rfl rfl) (ja_cons (je_neg (je_var 0)) (ja_cons (je_neg (je_var 1)) ja_nil))))) js_nil)
    (js_cons (js_set 2 (je_call (ok_law_gcd T) (hr.mono (Nat.le_trans (show 1 ≤ 1 by decide) (Nat.le_add_right 1 n))) (takes_of rfl rfl rfl rfl) (ja_cons (je_var 0) (ja_cons (je_var 1) ja_nil))) sc_law_fraction.nd)
    (js_one (js_ret (je_tup (ja_cons (je_div (je_var 0) (je_var 2)) (ja_cons (je_div (je_var 1) (je_var 2)) ja_nil)))))))
theorem ok_law_fraction {P : Program} {w : World} {K : PySem.W.Frag} {mg : Str → Option Value} {base : Heap} (T : Txt K mg) : Keeps P w K mg base "_law_fraction" 7 ["top", "bottom"] 2 .sh m_law_fraction := okr_law_fraction T 6
theorem sc_pairs_of : FnScope ["menu", "size", "u", "v"] ["menu"] (defScope s_pairs_of) := ⟨rfl, rfl, rfl, by decide +kernel, rfl, by decide +kernel, by decide +kernel⟩
theorem ok_pairs_of {P : Program} {w : World} {K : PySem.W.Frag} {mg : Str → Option Value} {base : Heap} (T : Txt K mg) : Keeps P w K mg base "pairs_of" 1 ["menu"] 1 .ow m_pairs_of :=
  keeps_of T.d_pairs_of sc_pairs_of (by decide) fun f cdv A outer s H E hr =>
    (js_cons (js_set 1 (je_fld "Net" T.f_Net_size (je_fld "Menu" T.f_Menu_net (je_var 0))) sc_pairs_of.nd)
    (js_one (js_ret (je_lc2 sc_pairs_of [("u", 2), ("v", 3)] [3] (ji_range1 (ja_cons (je_var 1) ja_nil) T.z_range) (fun _ _ _ _ _ => (jg_name 2 sc_pairs_of.nd)) (fun _ _ _ _ _ => jts_nil) (fun _ _ _ _ _ => (ji_range1 (ja_cons (je_var 1) ja_nil) T.z_range)) (fun _ _ _ _ _ => (jg_name 3 sc_pairs_of.nd)) (fun _ _ _ _ _ => jts_nil) (fun _ _ _ _ _ => (je_tup (ja_cons (je_var 2) (ja_cons (je_var 3) ja_nil))))))))
theorem sc_ratio : FnScope ["top", "bottom", "common"] ["top", "bottom"] (defScope s_ratio) := ⟨rfl, rfl, rfl, by decide +kernel, rfl, by decide +kernel, by decide +kernel⟩
theorem ok_ratio {P : Program} {w : World} {K : PySem.W.Frag} {mg : Str → Option Value} {base : Heap} (T : Txt K mg) : Keeps P w K mg base "ratio" 1 ["top", "bottom"] 2 .sh m_ratio :=
  keeps_of T.d_ratio sc_ratio (by decide) fun f cdv A outer s H E hr =>
    (js_cons (js_if (jt_eq hr.u (je_var 1) je_int) (js_one (js_raise0 T.e0_ZeroBottom (takes_of rfl rfl rfl rfl))) js_nil)
    (js_cons (js_set 2 (je_gcd T.g_gcd (ja_cons (je_var 0) (ja_cons (je_var 1) ja_nil))) sc_ratio.nd)
    (js_cons (js_fgt [] (js_if (jt_lt (je_var 1) je_int) (js_one (js_set 2 (je_neg (je_var 2)) sc_ratio.nd)) js_nil))
    (js_one (js_ret (je_tup (ja_cons (je_div (je_var 0) (je_var 2)) (ja_cons (je_div (je_var 1) (je_var 2)) ja_nil))))))))
theorem sc_added : FnScope ["one", "two"] ["one", "two"] (defScope s_added) := ⟨rfl, rfl, rfl, by decide +kernel, rfl, by decide +kernel, by decide +kernel⟩
theorem ok_added {P : Program} {w : World} {K : PySem.W.Frag} {mg : Str → Option Value} {base : Heap} (T : Txt K mg) : Keeps P w K mg base "added" 2 ["one", "two"] 2 .sh m_added :=
  keeps_of T.d_added sc_added (by decide) fun f cdv A outer s H E hr =>
    (js_one (js_ret (je_call (ok_ratio T) (hr.mono (by decide)) (takes_of rfl rfl rfl rfl) (ja_cons (je_add (je_mulI (je_item (je_var 0) je_int) (je_item (je_var 1) je_int)) (je_mulI (je_item (je_var 1) je_int) (je_item (je_var 0) je_int))) (ja_cons (je_mulI (je_item (je_var 0) je_int) (je_item (je_var 1) je_int)) ja_nil)))))
theorem sc_fraction_sum : FnScope ["values", "total", "value"] ["values"] (defScope s_fraction_sum) := ⟨rfl, rfl, rfl, by decide +kernel, rfl, by decide +kernel, by decide +kernel⟩
theorem ok_fraction_sum {P : Program} {w : World} {K : PySem.W.Frag} {mg : Str → Option Value} {base : Heap} (T : Txt K mg) : Keeps P w K mg base "fraction_sum" 3 ["values"] 1 .sh m_fraction_sum :=
  keeps_of T.d_fraction_sum sc_fraction_sum (by decide) fun f cdv A outer s H E hr =>
    (js_cons (js_set 1 (je_tup (ja_cons je_int (ja_cons je_int ja_nil))) sc_fraction_sum.nd)
    (js_cons (js_for (ji_seq (je_var 0)) (jg_name 2 sc_fraction_sum.nd) (jss_fgt [2] (js_one (js_set 1 (je_call (ok_added T) (hr.mono (by decide)) (takes_of rfl rfl rfl rfl) (ja_cons (je_var 1) (ja_cons (je_var 2) ja_nil))) sc_fraction_sum.nd))) (passes_of rfl))
    (js_one (js_retV 1))))
theorem sc_compare : FnScope ["one", "two", "left", "right"] ["one", "two"] (defScope s_compare) := ⟨rfl, rfl, rfl, by decide +kernel, rfl, by decide +kernel, by decide +kernel⟩
theorem ok_compare {P : Program} {w : World} {K : PySem.W.Frag} {mg : Str → Option Value} {base : Heap} (T : Txt K mg) : Keeps P w K mg base "compare" 1 ["one", "two"] 2 .sh m_compare :=
  keeps_of T.d_compare sc_compare (by decide) fun f cdv A outer s H E hr =>
    (js_cons (js_set 2 (je_mulI (je_item (je_var 0) je_int) (je_item (je_var 1) je_int)) sc_compare.nd)
    (js_cons (js_set 3 (je_mulI (je_item (je_var 1) je_int) (je_item (je_var 0) je_int)) sc_compare.nd)
    (js_cons (js_if (jt_lt (je_var 2) (je_var 3)) (js_one (js_ret (je_neg je_int))) js_nil)
    (js_cons (js_if (jt_gt (je_var 2) (je_var 3)) (js_one (js_ret je_int)) js_nil)
    (js_one (js_ret je_int))))))
theorem sc_least_of : FnScope ["values", "least", "value"] ["values"] (defScope s_least_of) := ⟨rfl, rfl, rfl, by decide +kernel, rfl, by decide +kernel, by decide +kernel⟩
theorem ok_least_of {P : Program} {w : World} {K : PySem.W.Frag} {mg : Str → Option Value} {base : Heap} (T : Txt K mg) : Keeps P w K mg base "least_of" 2 ["values"] 1 .sh m_least_of :=
  keeps_of T.d_least_of sc_least_of (by decide) fun f cdv A outer s H E hr =>
    (js_cons (js_set 1 (je_item (je_var 0) je_int) sc_least_of.nd)
    (js_cons (js_for (ji_seq (je_var 0)) (jg_name 2 sc_least_of.nd) (jss_fgt [2] (js_one (js_fgt [] (js_if (jt_lt (je_call (ok_compare T) (hr.mono (by decide)) (takes_of rfl rfl rfl rfl) (ja_cons (je_var 2) (ja_cons (je_var 1) ja_nil))) je_int) (js_one (js_set 1 (je_var 2) sc_least_of.nd)) js_nil)))) (passes_of rfl))
    (js_one (js_retV 1))))
theorem sc_passes : FnScope ["route", "place"] ["route", "place"] (defScope s_passes) := ⟨rfl, rfl, rfl, by decide +kernel, rfl, by decide +kernel, by decide +kernel⟩
theorem ok_passes {P : Program} {w : World} {K : PySem.W.Frag} {mg : Str → Option Value} {base : Heap} (T : Txt K mg) : Keeps P w K mg base "passes" 7 ["route", "place"] 2 .sh m_passes :=
  keeps_of T.d_passes sc_passes (by decide) fun f cdv A outer s H E hr =>
    (js_cons (js_set 1 (je_call (ok_frozen T) (hr.mono (by decide)) (takes_of rfl rfl rfl rfl) (ja_cons (je_var 1) ja_nil)) sc_passes.nd)
    (js_cons (js_if (jt_eq hr.u (je_len T.z_len (ja_cons (je_var 1) ja_nil)) je_int) (js_one (js_ret (je_in hr.u (je_item (je_var 1) je_int) (je_var 0)))) js_nil)
    (js_one (js_ret (je_in hr.u (je_var 1) (je_call (ok_route_lanes T) (hr.mono (by decide)) (takes_of rfl rfl rfl rfl) (ja_cons (je_var 0) ja_nil)))))))
theorem sc_route_worth : FnScope ["mix", "u", "v", "route", "weight", "day", "place"] ["mix", "u", "v", "route"] (defScope s_route_worth) := ⟨rfl, rfl, rfl, by decide +kernel, rfl, by decide +kernel, by decide +kernel⟩
theorem ok_route_worth {P : Program} {w : World} {K : PySem.W.Frag} {mg : Str → Option Value} {base : Heap} (T : Txt K mg) : Keeps P w K mg base "route_worth" 8 ["mix", "u", "v", "route"] 4 .sh m_route_worth :=
  keeps_of T.d_route_worth sc_route_worth (by decide) fun f cdv A outer s H E hr =>
    (js_one (js_ret (je_call (ok_fraction_sum T) (hr.mono (by decide)) (takes_of rfl rfl rfl rfl) (ja_cons (je_share (je_lc sc_route_worth [("weight", 4), ("day", 5), ("place", 6)] (ji_seq (je_var 0)) (fun _ _ _ _ _ => (jg_tup (jgs_cons (jg_name 4 sc_route_worth.nd) (jgs_cons (jg_name 5 sc_route_worth.nd) (jgs_cons (jg_name 6 sc_route_worth.nd) jgs_nil))) (gsC_len (gsC_len (gsC_len gs0_len))))) (fun _ _ _ _ _ => (jts_one (JW.jt (jw_and (jt_eq hr.u (je_item (je_var 5) (je_var 1)) (je_var 2)) (jw_and1 (jt_tr (je_call (ok_passes T) (hr.mono (by decide)) takesF (ja_cons (je_var 3) (ja_cons (je_var 6) ja_nil))))))))) (fun _ _ _ _ _ => (je_var 4)))) ja_nil))))
theorem sc_mix_worth : FnScope ["menu", "mix", "worths", "u", "v", "route"] ["menu", "mix"] (defScope s_mix_worth) := ⟨rfl, rfl, rfl, by decide +kernel, rfl, by decide +kernel, by decide +kernel⟩
theorem ok_mix_worth {P : Program} {w : World} {K : PySem.W.Frag} {mg : Str → Option Value} {base : Heap} (T : Txt K mg) : Keeps P w K mg base "mix_worth" 9 ["menu", "mix"] 2 .sh m_mix_worth :=
  keeps_of T.d_mix_worth sc_mix_worth (by decide) fun f cdv A outer s H E hr =>
    (js_cons (js_set 1 (je_call (ok_frozen T) (hr.mono (by decide)) (takes_of rfl rfl rfl rfl) (ja_cons (je_var 1) ja_nil)) sc_mix_worth.nd)
    (js_cons (js_set 2 (je_lst (md := .ow) ja_nil) sc_mix_worth.nd)
    (js_cons (js_for (ji_seq (je_share (je_call (ok_pairs_of T) (hr.mono (by decide)) (takes_of rfl rfl rfl rfl) (ja_cons (je_var 0) ja_nil)))) (jg_tup2 (jg_name 3 sc_mix_worth.nd) (jg_name 4 sc_mix_worth.nd)) (jss_fgt [3, 4] (js_one (js_app 2 (je_call (ok_least_of T) (hr.mono (by decide)) (takes_of rfl rfl rfl rfl) (ja_cons (je_share (je_lc sc_mix_worth [("route", 5)] (ji_seq (je_item (je_item (je_fld "Menu" T.f_Menu_rows (je_var 0)) (je_var 3)) (je_var 4))) (fun _ _ _ _ _ => (jg_name 5 sc_mix_worth.nd)) (fun _ _ _ _ _ => jts_nil) (fun _ _ _ _ _ => (je_call (ok_route_worth T) (hr.mono (by decide)) takesF (ja_cons (je_var 1) (ja_cons (je_var 3) (ja_cons (je_var 4) (ja_cons (je_var 5) ja_nil)))))))) ja_nil))))) (passes_of rfl))
    (js_one (js_weak1 (m := [.sh, .sh, .ow, .sh, .sh, .sh]) (m1 := [.sh, .sh, .sh, .sh, .sh, .sh]) (js_ret (je_call (ok_fraction_sum T) (hr.mono (by decide)) (takes_of rfl rfl rfl rfl) (ja_cons (je_var 2) ja_nil))))))))
theorem sc_law_day : FnScope ["size", "row", "left", "day", "k"] ["size", "row"] (defScope s_law_day) := ⟨rfl, rfl, rfl, by decide +kernel, rfl, by decide +kernel, by decide +kernel⟩
theorem ok_law_day {P : Program} {w : World} {K : PySem.W.Frag} {mg : Str → Option Value} {base : Heap} (T : Txt K mg) : Keeps P w K mg base "_law_day" 1 ["size", "row"] 2 .sh m_law_day :=
  keeps_of T.d_law_day sc_law_day (by decide) fun f cdv A outer s H E hr =>
    (js_cons (js_setLc 2 sc_law_day [("k", 4)] (ji_range1 (ja_cons (je_var 0) ja_nil) T.z_range) (fun _ _ _ _ _ => (jg_name 4 sc_law_day.nd)) (fun _ _ _ _ _ => jts_nil) (fun _ _ _ _ _ => (je_var 4)))
    (js_cons (js_set 3 (je_lst (md := .ow) ja_nil) sc_law_day.nd)
    (js_cons (js_for (ji_range1 (ja_cons (je_var 0) ja_nil) T.z_range) (jg_name 4 sc_law_day.nd) (jss_fgt [4] (js_one (js_appX 3 (jx_pop 2 (je_mod (je_int_ T.z_int (ja_cons (je_item (je_var 1) (je_var 4)) ja_nil)) (je_borrow (m1 := [.sh, .sh, .sh, .sh, .sh]) (je_len T.z_len (ja_cons (je_var 2) ja_nil)))))))) (passes_of rfl))
    (js_one (js_weak1 (m := [.sh, .sh, .ow, .ow, .sh]) (m1 := [.sh, .sh, .ow, .sh, .sh]) (js_ret (je_tuple T.z_tuple (ja_cons (je_var 3) ja_nil))))))))
theorem sc_law_added : FnScope ["one", "two"] ["one", "two"] (defScope s_law_added) := ⟨rfl, rfl, rfl, by decide +kernel, rfl, by decide +kernel, by decide +kernel⟩
theorem ok_law_added {P : Program} {w : World} {K : PySem.W.Frag} {mg : Str → Option Value} {base : Heap} (T : Txt K mg) : Keeps P w K mg base "_law_added" 8 ["one", "two"] 2 .sh m_law_added :=
  keeps_of T.d_law_added sc_law_added (by decide) fun f cdv A outer s H E hr =>
    (js_one (js_ret (je_call (ok_law_fraction T) (hr.mono (by decide)) (takes_of rfl rfl rfl rfl) (ja_cons (je_add (je_mulI (je_item (je_var 0) je_int) (je_item (je_var 1) je_int)) (je_mulI (je_item (je_var 1) je_int) (je_item (je_var 0) je_int))) (ja_cons (je_mulI (je_item (je_var 0) je_int) (je_item (je_var 1) je_int)) ja_nil)))))
theorem sc_law_at_most : FnScope ["one", "two"] ["one", "two"] (defScope s_law_at_most) := ⟨rfl, rfl, rfl, by decide +kernel, rfl, by decide +kernel, by decide +kernel⟩
theorem ok_law_at_most {P : Program} {w : World} {K : PySem.W.Frag} {mg : Str → Option Value} {base : Heap} (T : Txt K mg) : Keeps P w K mg base "_law_at_most" 1 ["one", "two"] 2 .sh m_law_at_most :=
  keeps_of T.d_law_at_most sc_law_at_most (by decide) fun f cdv A outer s H E hr =>
    (js_one (js_ret (je_le (je_mulI (je_item (je_var 0) je_int) (je_item (je_var 1) je_int)) (je_mulI (je_item (je_var 1) je_int) (je_item (je_var 0) je_int)))))
theorem sc_law_passes : FnScope ["route", "place", "k"] ["route", "place"] (defScope s_law_passes) := ⟨rfl, rfl, rfl, by decide +kernel, rfl, by decide +kernel, by decide +kernel⟩
theorem ok_law_passes {P : Program} {w : World} {K : PySem.W.Frag} {mg : Str → Option Value} {base : Heap} (T : Txt K mg) : Keeps P w K mg base "_law_passes" 1 ["route", "place"] 2 .sh m_law_passes :=
  keeps_of T.d_law_passes sc_law_passes (by decide) fun f cdv A outer s H E hr =>
    (js_cons (js_if (jt_eq hr.u (je_len T.z_len (ja_cons (je_var 1) ja_nil)) je_int) (js_one (js_ret (je_in hr.u (je_item (je_var 1) je_int) (je_var 0)))) js_nil)
    (js_cons (js_for (ji_range1 (ja_cons (je_sub (je_len T.z_len (ja_cons (je_var 0) ja_nil)) je_int) ja_nil) T.z_range) (jg_name 2 sc_law_passes.nd) (jss_fgt [2] (js_one (js_if (JW.jt (jw_and (jt_eq hr.u (je_item (je_var 0) (je_var 2)) (je_item (je_var 1) je_int)) (jw_and1 (jt_eq hr.u (je_item (je_var 0) (je_add (je_var 2) je_int)) (je_item (je_var 1) je_int))))) (js_one (js_ret je_bl)) js_nil))) (passes_of rfl))
    (js_one (js_ret je_bl))))
theorem sc_law_mix_worth : FnScope ["rows", "mix", "worth", "u", "v", "least", "route", "mine", "triple"] ["rows", "mix"] (defScope s_law_mix_worth) := ⟨rfl, rfl, rfl, by decide +kernel, rfl, by decide +kernel, by decide +kernel⟩
theorem ok_law_mix_worth {P : Program} {w : World} {K : PySem.W.Frag} {mg : Str → Option Value} {base : Heap} (T : Txt K mg) : Keeps P w K mg base "_law_mix_worth" 9 ["rows", "mix"] 2 .sh m_law_mix_worth :=
  keeps_of T.d_law_mix_worth sc_law_mix_worth (by decide) fun f cdv A outer s H E hr =>
    (js_cons (js_set 2 (je_tup (ja_cons je_int (ja_cons je_int ja_nil))) sc_law_mix_worth.nd)
    (js_cons (js_for (ji_range1 (ja_cons (je_len T.z_len (ja_cons (je_var 0) ja_nil)) ja_nil) T.z_range) (jg_name 3 sc_law_mix_worth.nd) (jss_fgt [3, 4, 5, 6, 7, 8] (js_one (js_for (ji_range1 (ja_cons (je_len T.z_len (ja_cons (je_var 0) ja_nil)) ja_nil) T.z_range) (jg_name 4 sc_law_mix_worth.nd) (jss_fgt [4, 5, 6, 7, 8] (js_cons (js_set 5 je_non sc_law_mix_worth.nd)
    (js_cons (js_for (ji_seq (je_item (je_item (je_var 0) (je_var 3)) (je_var 4))) (jg_name 6 sc_law_mix_worth.nd) (jss_fgt [6, 7, 8] (js_cons (js_set 7 (je_tup (ja_cons je_int (ja_cons je_int ja_nil))) sc_law_mix_worth.nd)
    (js_cons (js_for (ji_seq (je_var 1)) (jg_name 8 sc_law_mix_worth.nd) (jss_fgt [8] (js_one (js_fgt [] (js_if (JW.jt (jw_and (jt_eq hr.u (je_item (je_item (je_var 8) je_int) (je_var 3)) (je_var 4)) (jw_and1 (jt_tr (je_call (ok_law_passes T) (hr.mono (by decide)) (takes_of rfl rfl rfl rfl) (ja_cons (je_var 6) (ja_cons (je_item (je_var 8) je_int) ja_nil))))))) (js_one (js_set 7 (je_call (ok_law_added T) (hr.mono (by decide)) (takes_of rfl rfl rfl rfl) (ja_cons (je_var 7) (ja_cons (je_item (je_var 8) je_int) ja_nil))) sc_law_mix_worth.nd)) js_nil)))) (passes_of rfl))
    (js_one (js_fgt [] (js_if (JW.jt (jw_or (jt_isN (je_var 5)) (jw_or1 (jt_tr (je_call (ok_law_at_most T) (hr.mono (by decide)) (takes_of rfl rfl rfl rfl) (ja_cons (je_var 7) (ja_cons (je_var 5) ja_nil))))))) (js_one (js_set 5 (je_var 7) sc_law_mix_worth.nd)) js_nil)))))) (passes_of rfl))
    (js_one (js_set 2 (je_call (ok_law_added T) (hr.mono (by decide)) (takes_of rfl rfl rfl rfl) (ja_cons (je_var 2) (ja_cons (je_var 5) ja_nil))) sc_law_mix_worth.nd))))) (passes_of rfl)))) (passes_of rfl))
    (js_one (js_retV 2))))
theorem sc_law : FnScope ["script", "net", "size", "near", "row", "rows", "menu", "places", "many", "mix", "k", "handed", "copy", "drawn", "weight", "triple"] ["script"] (defScope s_law) := ⟨rfl, rfl, rfl, by decide +kernel, rfl, by decide +kernel, by decide +kernel⟩
theorem okf_law {P : Program} {w : World} {K : PySem.W.Frag} {mg : Str → Option Value} {base : Heap} (T : Txt K mg) {f : Addr} {fd : FuncData} (Fn : Fun K "law" "law" s_law f fd) : FnOk P w K mg base (L2.CX P w) 11 f fd ["script"] (spD K mg 1 .sh m_law) :=
  fn_ok (m' := msh 16) Fn sc_law (by decide) fun cdv A outer s H E hr =>
    (js_cons (js_set 1 (je_call (ok_law_net T) (hr.mono (by decide)) (takes_of rfl rfl rfl rfl) (ja_cons (je_share (je_call (ok_law_digits T) (hr.mono (by decide)) (takes_of rfl rfl rfl rfl) (ja_cons (je_call (ok_law_cell T) (hr.mono (by decide)) (takes_of rfl rfl rfl rfl) (ja_cons (je_var 0) (ja_cons je_int ja_nil))) (ja_cons (je_share (je_addL (je_share (je_addL (je_share (je_lst (md := .ow) (ja_cons je_int ja_nil))) (je_share (je_rep (je_share (je_lst (md := .ow) (ja_cons je_int ja_nil))) je_int)))) (je_share (je_rep (je_share (je_lst (md := .ow) (ja_cons je_int (ja_cons je_int (ja_cons je_int ja_nil))))) je_int)))) ja_nil)))) (ja_cons je_int ja_nil))) sc_law.nd)
    (js_cons (js_set 2 (je_itemO 1 je_int) sc_law.nd)
    (js_cons (js_set 3 (je_call (ok_law_near T) (hr.mono (by decide)) (takes_of rfl rfl rfl rfl) (ja_cons (je_var 2) (ja_cons (je_itemO 1 je_int) ja_nil))) sc_law.nd)
    (js_cons (js_set 4 (je_call (ok_law_digits T) (hr.mono (by decide)) (takes_of rfl rfl rfl rfl) (ja_cons (je_call (ok_law_cell T) (hr.mono (by decide)) (takes_of rfl rfl rfl rfl) (ja_cons (je_var 0) (ja_cons je_int ja_nil))) (ja_cons (je_share (je_addL (je_share (je_lst (md := .ow) (ja_cons je_int (ja_cons je_int ja_nil)))) (je_share (je_rep (je_share (je_lst (md := .ow) (ja_cons je_int ja_nil))) je_int)))) ja_nil))) sc_law.nd)
    (js_cons (js_weak1 (m := [.sh, .ow, .sh, .ow, .ow, .sh, .sh, .sh, .sh, .sh, .sh, .sh, .sh, .sh, .sh, .sh]) (m1 := [.sh, .ow, .sh, .sh, .ow, .sh, .sh, .sh, .sh, .sh, .sh, .sh, .sh, .sh, .sh, .sh]) (js_weak1 (m := [.sh, .ow, .sh, .sh, .ow, .sh, .sh, .sh, .sh, .sh, .sh, .sh, .sh, .sh, .sh, .sh]) (m1 := [.sh, .ow, .sh, .sh, .sh, .sh, .sh, .sh, .sh, .sh, .sh, .sh, .sh, .sh, .sh, .sh]) (js_set 5 (je_call (ok_law_menu T) (hr.mono (by decide)) (takes_of rfl rfl rfl rfl) (ja_cons (je_var 3) (ja_cons (je_var 4) (ja_cons (je_item (je_var 4) je_int) ja_nil)))) sc_law.nd)))
    (js_cons (js_weak1 (m := [.sh, .ow, .sh, .sh, .sh, .ow, .sh, .sh, .sh, .sh, .sh, .sh, .sh, .sh, .sh, .sh]) (m1 := [.sh, .ow, .sh, .sh, .sh, .sh, .sh, .sh, .sh, .sh, .sh, .sh, .sh, .sh, .sh, .sh]) (js_set 6 (je_make (ok_Menu_init T) (hr.mono (by decide)) (takes_of rfl rfl rfl rfl) (ja_cons (je_make (ok_Net_init T) (hr.mono (by decide)) (takes_of rfl rfl rfl rfl) (ja_cons (je_var 2) (ja_cons (je_itemO 1 je_int) ja_nil))) (ja_cons (je_var 5) ja_nil))) sc_law.nd))
    (js_cons (js_set 7 (je_call (ok_law_places T) (hr.mono (by decide)) (takes_of rfl rfl rfl rfl) (ja_cons (je_var 3) ja_nil)) sc_law.nd)
    (js_cons (js_set 8 (je_call (ok_law_digits T) (hr.mono (by decide)) (takes_of rfl rfl rfl rfl) (ja_cons (je_call (ok_law_cell T) (hr.mono (by decide)) (takes_of rfl rfl rfl rfl) (ja_cons (je_var 0) (ja_cons je_int ja_nil))) (ja_cons (je_share (je_lst (md := .ow) (ja_cons je_int (ja_cons je_int ja_nil)))) ja_nil))) sc_law.nd)
    (js_cons (js_set 9 (je_lst (md := .ow) ja_nil) sc_law.nd)
    (js_cons (js_for (ji_range1 (ja_cons (je_itemO 8 je_int) ja_nil) T.z_range) (jg_name 10 sc_law.nd) (jss_fgt [10, 13, 14] (js_end (m1 := [.sh, .ow, .sh, .sh, .sh, .sh, .sh, .ow, .ow, .ow, .sh, .sh, .sh, .ow, .sh, .sh]) (m2 := [.sh, .ow, .sh, .sh, .sh, .sh, .sh, .ow, .ow, .ow, .sh, .sh, .sh, .sh, .sh, .sh]) (js_cons (js_set 13 (je_call (ok_law_digits T) (hr.mono (by decide)) (takes_of rfl rfl rfl rfl) (ja_cons (je_call (ok_law_cell T) (hr.mono (by decide)) (takes_of rfl rfl rfl rfl) (ja_cons (je_var 0) (ja_cons (je_add je_int (je_var 10)) ja_nil))) (ja_cons (je_share (je_addL (je_share (je_lst (md := .ow) (ja_cons (je_borrow (m1 := [.sh, .sh, .sh, .sh, .sh, .sh, .sh, .sh, .sh, .sh, .sh, .sh, .sh, .sh, .sh, .sh]) (je_len T.z_len (ja_cons (je_var 7) ja_nil))) (ja_cons je_int (ja_cons je_int (ja_cons je_int ja_nil)))))) (je_share (je_rep (je_share (je_lst (md := .ow) (ja_cons je_int ja_nil))) je_int)))) ja_nil))) sc_law.nd)
    (js_cons (js_set 14 (je_call (ok_law_fraction T) (hr.mono (by decide)) (takes_of rfl rfl rfl rfl) (ja_cons (je_sub (je_itemO 13 je_int) je_int) (ja_cons (je_item (je_share (je_lst (md := .ow) (ja_cons je_int (ja_cons je_int (ja_cons je_int (ja_cons je_int (ja_cons je_int (ja_cons je_int ja_nil)))))))) (je_itemO 13 je_int)) ja_nil))) sc_law.nd)
    (js_cons (js_app 9 (je_tup (ja_cons (je_var 14) (ja_cons (je_call (ok_law_day T) (hr.mono (by decide)) (takes_of rfl rfl rfl rfl) (ja_cons (je_var 2) (ja_cons (je_share (je_cutLO 13 (jo_some je_int) jo_none)) ja_nil))) (ja_cons (je_itemO 7 (je_itemO 13 je_int)) ja_nil)))))
    (js_one (js_fgt [] (js_if (jt_eq hr.u (je_itemO 13 je_int) je_int) (js_one (js_app 9 (je_itemO 9 je_int))) js_nil)))))))) (passes_of rfl))
    (js_cons (js_fgt [] (js_if (jt_eq hr.u (je_itemO 8 je_int) je_int) (js_one (js_weak1 (m := [.sh, .ow, .sh, .sh, .sh, .sh, .sh, .ow, .ow, .ow, .sh, .sh, .sh, .sh, .sh, .sh]) (m1 := [.sh, .ow, .sh, .sh, .sh, .sh, .sh, .ow, .ow, .sh, .sh, .sh, .sh, .sh, .sh, .sh]) (js_set 9 (je_rep (je_var 9) je_int) sc_law.nd))) js_nil))
    (js_cons (js_weak1 (m := [.sh, .ow, .sh, .sh, .sh, .sh, .sh, .ow, .ow, .ow, .sh, .sh, .sh, .sh, .sh, .sh]) (m1 := [.sh, .ow, .sh, .sh, .sh, .sh, .sh, .ow, .ow, .sh, .sh, .sh, .sh, .sh, .sh, .sh]) (js_setLc 11 sc_law [("triple", 15)] (ji_seq (je_var 9)) (fun _ _ _ _ _ => (jg_name 15 sc_law.nd)) (fun _ _ _ _ _ => jts_nil) (fun _ _ _ _ _ => (je_share (je_lst (md := .ow) (ja_cons (je_share ((je_list (md := .ow)) T.z_list (ja_cons (je_item (je_var 15) je_int) ja_nil))) (ja_cons (je_share ((je_list (md := .ow)) T.z_list (ja_cons (je_item (je_var 15) je_int) ja_nil))) (ja_cons (je_share ((je_list (md := .ow)) T.z_list (ja_cons (je_item (je_var 15) je_int) ja_nil))) ja_nil))))))))
    (js_cons (js_setLc 12 sc_law [("triple", 15)] (ji_seq (je_var 9)) (fun _ _ _ _ _ => (jg_name 15 sc_law.nd)) (fun _ _ _ _ _ => jts_nil) (fun _ _ _ _ _ => (je_share (je_lst (md := .ow) (ja_cons (je_share ((je_list (md := .ow)) T.z_list (ja_cons (je_item (je_var 15) je_int) ja_nil))) (ja_cons (je_share ((je_list (md := .ow)) T.z_list (ja_cons (je_item (je_var 15) je_int) ja_nil))) (ja_cons (je_share ((je_list (md := .ow)) T.z_list (ja_cons (je_item (je_var 15) je_int) ja_nil))) ja_nil)))))))
    (js_cons (js_if (JW.jt (jw_or (jt_not (jt_borrow (m1 := [.sh, .sh, .sh, .sh, .sh, .sh, .sh, .sh, .sh, .sh, .sh, .sh, .sh, .sh, .sh, .sh]) (jt_tr (je_call (ok_law_same T) (hr.mono (by decide)) (takes_of rfl rfl rfl rfl) (ja_cons (je_call (ok_mix_worth T) (hr.mono (by decide)) (takes_of rfl rfl rfl rfl) (ja_cons (je_var 6) (ja_cons (je_var 11) ja_nil))) (ja_cons (je_call (ok_law_mix_worth T) (hr.mono (by decide)) (takes_of rfl rfl rfl rfl) (ja_cons (je_var 5) (ja_cons (je_var 9) ja_nil))) ja_nil)))))) (jw_or1 (jt_borrow (m1 := [.sh, .sh, .sh, .sh, .sh, .sh, .sh, .sh, .sh, .sh, .sh, .sh, .sh, .sh, .sh, .sh]) (jt_ne hr.u (je_var 11) (je_var 12)))))) (js_one (js_ret je_bl)) js_nil)
    (js_one (js_ret (je_call (ok_law_same T) (hr.mono (by decide)) (takes_of rfl rfl rfl rfl) (ja_cons (je_call (ok_mix_worth T) (hr.mono (by decide)) (takes_of rfl rfl rfl rfl) (ja_cons (je_var 6) (ja_cons (je_share (je_lst (md := .ow) ja_nil)) ja_nil))) (ja_cons (je_tup (ja_cons je_int (ja_cons je_int ja_nil))) ja_nil)))))))))))))))))))
end Kx
namespace Da
open PySem PySem.Spec L2
section
variable {α β γ : Type}
@[simp] theorem Res.bind_ret (r : Res α) : (r.bind fun x => .ok x) = r := by cases r <;> rfl
@[simp] theorem Res.bind_assoc (r : Res α) (f : α → Res β) (g : β → Res γ) : (r.bind f).bind g = r.bind fun x => (f x).bind g := by cases r <;> rfl
theorem mulR_of {i j : Int} (h : mulOk i j = true) : mulR i j = .ok (i * j) := if_pos h
theorem mulR_64 {i j : Int} (hi : i.natAbs < 18446744073709551616) (hj : j.natAbs < 18446744073709551616) : mulR i j = .ok (i * j) := mulR_of (mul64 hi hj)
theorem mulR_44 {i j : Int} (hi : i.natAbs < 2 ^ 4400) (hj : j.natAbs < 2 ^ 4400) : mulR i j = .ok (i * j) := mulR_of (mulOk_of (a := 4400) (b := 4400) hi hj)
theorem modR_pos {i j : Int} (h : 0 < j) : modR i j = .ok (i % j) := if_pos h
theorem divR_pos {i j : Int} (h : 0 < j) (h9 : j.natAbs < Lim) : divR i j = .ok (i / j) := if_pos ⟨h, log2_lt h9 (by decide)⟩
theorem divR_64 {i j : Int} (h : 0 < j) (h9 : j < 18446744073709551616) : divR i j = .ok (i / j) := divR_pos h (lt_lim (by omega))
theorem powR_of {i j r : Int} (h : powOk i j = true) (hr : i ^ j.toNat = r) : powR i j = .ok r := by rw [← hr]; exact if_pos h
theorem powR_18 : powR 10 18 = .ok 1000000000000000000 := powR_of (stuck_iff.mpr (by omega)) (by decide +kernel)
theorem ixR_nat {xs : List α} {i : Nat} {x : α} (h : xs[i]? = some x) : ixR xs (i : Int) = .ok x := by unfold ixR; rw [atI_nat h]
theorem ixR_of {xs : List α} {i : Int} {x : α} (h0 : 0 ≤ i) (h : xs[i.toNat]? = some x) : ixR xs i = .ok x := by
  have := ixR_nat h
  rwa [show ((i.toNat : Nat) : Int) = i by omega] at this
theorem ixR_D {xs : List α} {i : Int} (d : α) (h0 : 0 ≤ i) (h : i < xs.length) : ixR xs i = .ok (xs.getD i.toNat d) := by
  refine ixR_of h0 ?_
  rw [List.getD_eq_getElem?_getD, List.getElem?_eq_getElem (by omega)]
  rfl
theorem appR_ok {xs : List α} {x : α} (h : xs.length < 1000000) : appR xs x = .ok (xs ++ [x]) := if_pos (szOk_yes h)
theorem catR_ok {xs ys : List α} (h : xs.length + ys.length ≤ 1000000) : catR xs ys = .ok (xs ++ ys) := if_pos (szOk_yes h)
theorem repR_ok {xs : List α} {k : Int} (h : k < 9223372036854775808 ∧ -9223372036854775808 ≤ k) (h2 : xs.length * k.toNat ≤ 1000000) : repR xs k = .ok (List.replicate k.toNat xs).flatten := if_pos (stuck_iff.mpr ⟨by omega, szOk_yes h2⟩)
theorem setR_nat {xs : List α} {i : Nat} {x : α} (h : i < xs.length) : setR xs (i : Int) x = .ok (xs.set i x) := by
  unfold setR
  rw [show ixN xs.length (i : Int) = some i by unfold ixN; rw [if_pos (by omega), if_pos (by omega)]; simp]
theorem setR_of {xs : List α} {i : Int} {x : α} (h0 : 0 ≤ i) (h : i < xs.length) : setR xs i x = .ok (xs.set i.toNat x) := by
  have := setR_nat (xs := xs) (x := x) (i := i.toNat) (by omega)
  rwa [show ((i.toNat : Nat) : Int) = i by omega] at this
theorem popR_of {xs : List α} {i : Int} (h0 : 0 ≤ i) (h : i < xs.length) (hz : xs.length ≤ 1000000) : popR xs i = .ok (xs[i.toNat]'(by omega), xs.eraseIdx i.toNat) := by
  unfold popR
  rw [show ixN xs.length i = some i.toNat by unfold ixN; rw [if_pos h0, if_pos h]]
  simp only [List.getElem?_eq_getElem (show i.toNat < xs.length by omega), szOk_yes hz, if_true]
theorem rngI_upto {n : Nat} : rngI 0 n = upto n := by
  unfold rngI upto
  exact List.map_congr_left fun i _ => Int.zero_add _
theorem rngR_ok {j : Int} (h0 : 0 ≤ j) (h : j < 4611686018427387904) : rngR j = .ok (upto j.toNat) := by
  unfold rngR
  rw [if_pos (show rngOk 0 j = true from stuck_iff.mpr (by omega)), rngI_upto]
theorem rngR_nat {n : Nat} (h : n < 4611686018427387904) : rngR (n : Int) = .ok (upto n) := by rw [rngR_ok (by omega) (by omega)]; simp
theorem rng2R_ok {i j : Int} (h0 : -4611686018427387904 ≤ i) (h1 : i < 4611686018427387904) (h2 : -4611686018427387904 ≤ j) (h : j < 4611686018427387904) : rng2R i j = .ok (rngI i (j - i).toNat) := by
  unfold rng2R
  rw [if_pos (show rngOk i j = true from stuck_iff.mpr (by omega))]
theorem upto_get {n i : Nat} {x : Int} (h : (upto n)[i]? = some x) : x = (i : Int) ∧ i < n := by
  unfold upto at h
  rw [List.getElem?_map] at h
  cases e : (List.range n)[i]? with
  | none => rw [e] at h; cases h
  | some j =>
    rw [e] at h
    have hi := (List.getElem?_eq_some_iff.mp e).1
    rw [List.length_range] at hi
    rw [List.getElem?_range hi] at e
    cases e; cases h
    exact ⟨rfl, hi⟩
theorem rngI_get {lo : Int} {n i : Nat} {x : Int} (h : (rngI lo n)[i]? = some x) : x = lo + (i : Int) ∧ i < n := by
  unfold rngI at h
  rw [List.getElem?_map] at h
  cases e : (List.range n)[i]? with
  | none => rw [e] at h; cases h
  | some j =>
    rw [e] at h
    have hi := (List.getElem?_eq_some_iff.mp e).1
    rw [List.length_range] at hi
    rw [List.getElem?_range hi] at e
    cases e; cases h
    exact ⟨rfl, hi⟩
@[simp] theorem rngI_length {lo : Int} {n : Nat} : (rngI lo n).length = n := by unfold rngI; rw [List.length_map, List.length_range]
/-- a loop over 0 .. n - 1 -/
theorem forR_upto {σ : Type} {f : σ → Int → Res σ} {n : Nat} {s : σ} (P : Nat → σ → Prop) (h0 : P 0 s) (hs : ∀ (i : Nat) s, i < n → P i s → ∃ s', f s (i : Int) = .ok s' ∧ P (i + 1) s') : ∃ s', forR f (upto n) s = .ok s' ∧ P n s' := by
  obtain ⟨s', e, p⟩ := forR_inv (xs := upto n) (f := f) (s := s) P h0 (fun i x s hx p => by
    obtain ⟨rfl, hi⟩ := upto_get hx
    exact hs i s hi p)
  rw [upto_length] at p
  exact ⟨s', e, p⟩
theorem forC_upto {σ τ : Type} {f : σ → Int → Res (Ctl σ τ)} {n : Nat} {s : σ} (Q : Ctl σ τ → Prop) (P : Nat → σ → Prop) (h0 : P 0 s) (hs : ∀ (i : Nat) s, i < n → P i s → ∃ o, f s (i : Int) = .ok o ∧ (match o with
    | .go s' => P (i + 1) s'
    | .out s' => Q (.go s')
    | .ret b => Q (.ret b))) (hd : ∀ s, P n s → Q (.go s)) : ∃ o, forC f (upto n) s = .ok o ∧ Q o :=
  forC_inv Q P h0 (fun i x s hx p => by
    obtain ⟨rfl, hi⟩ := upto_get hx
    exact hs i s hi p) (fun s p => hd s (by rw [upto_length] at p; exact p))
@[simp] theorem forC_nil {α σ τ : Type} {f : σ → α → Res (Ctl σ τ)} {s : σ} : forC f [] s = .ok (.go s) := rfl
theorem forC_cons {α σ τ : Type} {f : σ → α → Res (Ctl σ τ)} {x : α} {xs : List α} {s : σ} : forC f (x :: xs) s = (f s x).bind fun o => match o with
    | .go s => forC f xs s
    | .out s => .ok (.go s)
    | .ret b => .ok (.ret b) := rfl
@[simp] theorem forR_nil {α σ : Type} {f : σ → α → Res σ} {s : σ} : forR f [] s = .ok s := rfl
@[simp] theorem forR_cons {α σ : Type} {f : σ → α → Res σ} {x : α} {xs : List α} {s : σ} : forR f (x :: xs) s = (f s x).bind fun s => forR f xs s := rfl
@[simp] theorem ctlS_go {σ τ : Type} {s : σ} : ctlS (.go s : Ctl σ τ) = .ok s := rfl
@[simp] theorem ctlS_out {σ τ : Type} {s : σ} : ctlS (.out s : Ctl σ τ) = .ok s := rfl
@[simp] theorem ctlK_go {σ τ γ : Type} {k : σ → Res γ} {rk : τ → γ} {s : σ} : ctlK k rk (.go s) = k s := rfl
@[simp] theorem ctlK_ret {σ τ γ : Type} {k : σ → Res γ} {rk : τ → γ} {b : τ} : ctlK k rk (.ret b : Ctl σ τ) = .ok (rk b) := rfl
theorem whileC_inv {σ τ : Type} {c : σ → Res Bool} {f : σ → Res (Ctl σ τ)} (Q : Ctl σ τ → Prop) (P : σ → Prop) (μ : σ → Nat) (hs : ∀ s, P s → ∃ b, c s = .ok b ∧ (b = false → Q (.go s)) ∧ (b = true → ∃ o, f s = .ok o ∧ (match o with
    | .go s' => P s' ∧ μ s' < μ s
    | .out s' => Q (.go s')
    | .ret b => Q (.ret b)))) : ∀ (n : Nat) (s : σ), P s → μ s < n → ∃ o, whileC c f n s = .ok o ∧ Q o
  | 0, s, _, h => absurd h (Nat.not_lt_zero _)
  | n + 1, s, p, hn => by
    obtain ⟨b, e, h1, h2⟩ := hs s p
    unfold whileC
    rw [e]
    cases b with
    | false => exact ⟨.go s, rfl, h1 rfl⟩
    | true =>
      obtain ⟨o, e2, q⟩ := h2 rfl
      dsimp only [Res.bind_ok]
      rw [if_pos rfl, e2]
      cases o with
      | go s' => exact whileC_inv Q P μ hs n s' q.1 (by have := q.2; omega)
      | out s' => exact ⟨.go s', rfl, q⟩
      | ret b => exact ⟨.ret b, rfl, q⟩
theorem enumI_eq : ∀ (xs : List α) (i : Nat), enumI i xs = (xs.zipIdx i).map fun p => ((p.2 : Int), p.1)
  | [], _ => rfl
  | x :: xs, i => by
    show ((i : Int), x) :: enumI (i + 1) xs = _
    rw [enumI_eq, List.zipIdx_cons]
    rfl
theorem enumI_at {xs : List α} {i j : Nat} {p : Int × α} (h : (enumI i xs)[j]? = some p) : p.1 = ((i + j : Nat) : Int) ∧ xs[j]? = some p.2 := by
  rw [enumI_eq, List.getElem?_map, List.getElem?_zipIdx] at h
  cases e : xs[j]? with
  | none => rw [e] at h; cases h
  | some x => rw [e] at h; cases h; exact ⟨rfl, rfl⟩
end
/-- the number q as a pair -/
def fq (q : Rat) : Int × Int := (q.num, (q.den : Int))
theorem fq_inj {p q : Rat} : fq p = fq q ↔ p = q := by
  constructor
  · intro h
    have h1 : p.num = q.num := congrArg Prod.fst h
    have h2 : (p.den : Int) = (q.den : Int) := congrArg Prod.snd h
    rw [rat_eq p, rat_eq q, h1, h2]
  · intro h; rw [h]
@[simp] theorem fq_dec {p q : Rat} : decide (fq p = fq q) = decide (p = q) := by
  by_cases h : p = q
  · subst h; simp
  · simp [h, fq_inj]
theorem fqc_eq {t b : Int} (hb : 0 < b) : (t / (Int.gcd t b : Int), b / (Int.gcd t b : Int)) = fq ((t : Rat) / (b : Rat)) := by
  have h := frac_eq (t := t) hb
  injection h with h
  injection h with h1 h2
  injection h1 with h1
  injection h2 with h2 _
  injection h2 with h2
  exact Prod.ext h1 h2
@[simp] theorem fq_0 : fq 0 = (0, 1) := rfl
@[simp] theorem fq_fst {q : Rat} : (fq q).1 = q.num := rfl
@[simp] theorem fq_snd {q : Rat} : (fq q).2 = (q.den : Int) := rfl
end Da
namespace Da
open PySem PySem.Spec L2
section
variable {α β γ : Type}
theorem forR_flat {f : List β → α → Res (List β)} {g : α → List β} {B : Nat} : ∀ {xs : List α} {s : List β}, (∀ x ∈ xs, ∀ s : List β, s.length + (g x).length ≤ B → f s x = .ok (s ++ g x)) → s.length + (xs.flatMap g).length ≤ B → forR f xs s = .ok (s ++ xs.flatMap g)
  | [], s, _, _ => by simp
  | x :: xs, s, h, hB => by
    rw [List.flatMap_cons, List.length_append] at hB
    rw [forR_cons, h x List.mem_cons_self s (by omega)]
    dsimp only [Res.bind_ok]
    rw [forR_flat (fun y hy => h y (List.mem_cons_of_mem _ hy)) (by rw [List.length_append]; omega), List.flatMap_cons, List.append_assoc]
theorem flat_one {g : α → β} : ∀ xs : List α, (xs.flatMap fun x => [g x]) = xs.map g
  | [] => rfl
  | x :: xs => by rw [List.flatMap_cons, flat_one xs]; rfl
/-- one item a turn -/
theorem forR_app {f : List β → α → Res (List β)} {g : α → β} {xs : List α} {s : List β} (h : ∀ x ∈ xs, ∀ s : List β, s.length < 1000000 → f s x = .ok (s ++ [g x])) (hB : s.length + xs.length ≤ 1000000) : forR f xs s = .ok (s ++ xs.map g) := by
  have := forR_flat (f := f) (g := fun x => [g x]) (B := 1000000) (xs := xs) (s := s) (fun x hx s hs => h x hx s (by simp at hs; omega)) (by rw [flat_one, List.length_map]; exact hB)
  rw [this, flat_one]
end
theorem foldl_addQ (qs : List Rat) (a : Rat) : qs.foldl (· + ·) a = a + qs.foldl (· + ·) 0 := by
  induction qs generalizing a with
  | nil => show a = a + 0; grind
  | cons q qs ih =>
    rw [List.foldl_cons, List.foldl_cons, ih (a + q), ih (0 + q)]
    grind
theorem sumQ_cons (q : Rat) (qs : List Rat) : sumQ (q :: qs) = q + sumQ qs := by
  unfold sumQ
  rw [List.foldl_cons, foldl_addQ]
  grind
theorem sumQ_zero {α : Type} (xs : List α) : sumQ (xs.map fun _ => (0 : Rat)) = 0 := by
  induction xs with
  | nil => rfl
  | cons x xs ih => rw [List.map_cons, sumQ_cons, ih]; grind
theorem In.le {L A B : Nat} {q : Rat} (h : In L A q) (hab : A ≤ B) : In L B q := by
  obtain ⟨n, e, hn⟩ := h
  exact ⟨n, e, Nat.le_trans hn hab⟩
end Da
namespace Da
open PySem PySem.Spec L2
def Tr {α : Type} (r : Res α) (Q : α → Prop) : Prop := ∃ v, r = .ok v ∧ Q v
section
variable {α β γ σ τ : Type} {r : Res α} {Q : α → Prop} {f : α → Res β} {v : α} {R : β → Prop}
theorem Tr.of (h : r = .ok v) (q : Q v) : Tr r Q := ⟨v, h, q⟩
theorem Tr.eq {r : Res α} {v : α} (h : Tr r fun x => x = v) : r = .ok v := by obtain ⟨x, e, rfl⟩ := h; exact e
theorem Tr.ok (q : Q v) : Tr (.ok v) Q := ⟨v, rfl, q⟩
theorem Tr.imp {Q' : α → Prop} (h : Tr r Q) (k : ∀ v, Q v → Q' v) : Tr r Q' := by obtain ⟨v, e, q⟩ := h; exact ⟨v, e, k v q⟩
theorem Tr.bind (h : Tr r Q) (k : ∀ v, Q v → Tr (f v) R) : Tr (r.bind f) R := by
  obtain ⟨v, e, q⟩ := h
  rw [e]
  exact k v q
/-- a step whose outcome is known -/
theorem Tr.st (h : r = .ok v) (k : Tr (f v) R) : Tr (r.bind f) R := by rw [h]; exact k
theorem Tr.nx (h : Tr r Q) : Tr (nx r) Q := by obtain ⟨v, e, q⟩ := h; rw [e]; exact ⟨v, rfl, q⟩
theorem Tr.ite {b : Bool} {r1 r2 : Res α} (h1 : b = true → Tr r1 Q) (h2 : b = false → Tr r2 Q) : Tr (if b = true then r1 else r2) Q := by
  cases b with
  | true => exact h1 rfl
  | false => exact h2 rfl
theorem Tr.itT {b : Bool} {r1 r2 : Res α} (hb : b = true) (h1 : Tr r1 Q) : Tr (if b = true then r1 else r2) Q := by rw [if_pos hb]; exact h1
theorem Tr.itF {b : Bool} {r1 r2 : Res α} (hb : b = false) (h1 : Tr r2 Q) : Tr (if b = true then r1 else r2) Q := by rw [if_neg (by rw [hb]; exact Bool.false_ne_true)]; exact h1
theorem tr_forR {f : σ → α → Res σ} {xs : List α} {s : σ} {Q : σ → Prop} (P : Nat → σ → Prop) (h0 : P 0 s) (hs : ∀ i x s, xs[i]? = some x → P i s → Tr (f s x) (P (i + 1))) (hd : ∀ s, P xs.length s → Q s) : Tr (forR f xs s) Q := by
  obtain ⟨s', e, p⟩ := forR_inv P h0 fun i x s hx p => hs i x s hx p
  exact ⟨s', e, hd s' p⟩
theorem tr_forRn {f : σ → Int → Res σ} {n : Nat} {s : σ} {Q : σ → Prop} (P : Nat → σ → Prop) (h0 : P 0 s) (hs : ∀ (i : Nat) s, i < n → P i s → Tr (f s (i : Int)) (P (i + 1))) (hd : ∀ s, P n s → Q s) : Tr (forR f (upto n) s) Q := by
  obtain ⟨s', e, p⟩ := forR_upto P h0 fun i s hi p => hs i s hi p
  exact ⟨s', e, hd s' p⟩
theorem tr_forCn {f : σ → Int → Res (Ctl σ τ)} {n : Nat} {s : σ} {Q : Ctl σ τ → Prop} (P : Nat → σ → Prop) (h0 : P 0 s) (hs : ∀ (i : Nat) s, i < n → P i s → Tr (f s (i : Int)) (fun o => match o with
    | .go s' => P (i + 1) s'
    | .out s' => Q (.go s')
    | .ret b => Q (.ret b))) (hd : ∀ s, P n s → Q (.go s)) : Tr (forC f (upto n) s) Q := forC_upto Q P h0 (fun i s hi p => hs i s hi p) hd
/-- a search, and what comes behind it -/
theorem tr_find {f : Unit → α → Res (Ctl Unit τ)} {xs : List α} {k : Unit → Res γ} {rk : τ → γ} {Q : γ → Prop} (P : α → Prop) (R : τ → Prop) (h : ∀ x ∈ xs, Tr (f () x) fun o => (o = .go () ∧ P x) ∨ ∃ b, o = .ret b ∧ R b)
    (h1 : (∀ x ∈ xs, P x) → Tr (k ()) Q) (h2 : ∀ b, R b → Q (rk b)) : Tr ((forC f xs ()).bind (ctlK k rk)) Q := by
  induction xs with
  | nil => exact h1 fun x hx => nomatch hx
  | cons x xs ih =>
    rw [forC_cons, Res.bind_assoc]
    obtain ⟨o, e, p⟩ := h x List.mem_cons_self
    rw [e]
    rcases p with ⟨rfl, p⟩ | ⟨b, rfl, r⟩
    · exact ih (fun y hy => h y (List.mem_cons_of_mem _ hy)) fun hp => h1 fun y hy => by
        rcases List.mem_cons.mp hy with rfl | hy
        · exact p
        · exact hp y hy
    · exact ⟨_, rfl, h2 b r⟩
/-- a loop that appends one item a turn -/
theorem tr_app {f : List β → α → Res (List β)} {xs : List α} (g : α → β) (hz : xs.length ≤ 1000000) (h : ∀ x ∈ xs, ∀ s : List β, s.length < 1000000 → Tr (f s x) fun y => y = s ++ [g x]) {Q : List β → Prop} (hq : Q (xs.map g)) : Tr (forR f xs []) Q := ⟨_, (forR_app (g := g) (s := []) (fun x hx s hs => (h x hx s hs).eq) (by rw [List.length_nil, Nat.zero_add]; exact hz)), by rw [List.nil_append]; exact hq⟩
theorem lcR_mapp {f : α → Res β} {k : γ → α} {xs : List γ} (g : γ → β) (hz : xs.length ≤ 1000000) (h : ∀ x ∈ xs, f (k x) = .ok (g x)) : lcR (xs.map k) (fun _ => .ok true) f = .ok (xs.map g) := by
  unfold lcR
  rw [if_pos (szOk_yes (by rw [List.length_map]; exact hz))]
  clear hz
  induction xs with
  | nil => rfl
  | cons x xs ih =>
    rw [List.map_cons]
    unfold lcR.go
    rw [h x List.mem_cons_self, ih fun y hy => h y (List.mem_cons_of_mem _ hy)]
    rfl
end
end Da
namespace Kx
open PySem PySem.Spec L2 Da
theorem law_cell (ns : List Int) (k : Int) (hk : 0 ≤ k) (hk2 : k < 1000000) : ∃ c : Int, N_law_cell_fi_i ns k = .ok c := by
  unfold N_law_cell_fi_i
  by_cases h : k < ns.length
  · exact ⟨ns[k.toNat], by simp [h, ixR_of (xs := ns) (x := ns[k.toNat]) hk (List.getElem?_eq_getElem (by omega))]⟩
  · obtain ⟨s, e, h1, h2⟩ := forR_inv (xs := ns) (s := (17 : Int)) (f := fun s x1 => (mulR s 31).bind fun x => Res.ok ((x + x1 % 1000003) % 1000003)) (fun _ s => 0 ≤ s ∧ s < 1000003) ⟨by omega, by omega⟩ fun i x s _ h => by
      refine ⟨_, by rw [mulR_64 (by omega) (by omega)]; rfl, ?_⟩
      omega
    have m1 : 0 ≤ (s + 7) * (k + 3) ∧ (s + 7) * (k + 3) ≤ 1000010 * 1000003 := ⟨Int.mul_nonneg (by omega) (by omega), Int.mul_le_mul (by omega) (by omega) (by omega) (by omega)⟩
    refine ⟨((s + 7) * (k + 3) * 69621) % 2147483647, ?_⟩
    simp only [Res.bind_assoc, Res.bind_ok, Res.bind_ret]
    rw [if_neg (by simpa using h), e]
    simp only [Res.bind_ok]
    rw [mulR_64 (by omega) (by omega)]
    simp only [Res.bind_ok]
    rw [mulR_64 (by omega) (by omega)]
    rfl
theorem law_digits (c : Int) (sizes : List Int) (hp : ∀ s ∈ sizes, 0 < s ∧ s < 18446744073709551616) (hz : sizes.length ≤ 100000) : ∃ row : List Int, N_law_digits_i_li c sizes = .ok row ∧ Digs sizes row := by
  unfold N_law_digits_i_li
  simp only [powR_18, Res.bind_ok, Res.bind_assoc, Res.bind_ret]
  by_cases h : 1000000000000000000 ≤ c
  · rw [if_pos (by simpa using h)]
    obtain ⟨s, e, hd⟩ := forR_inv (xs := sizes) (s := (([] : List Int), c - 1000000000000000000)) (f := fun x5 x4 => (modR x5.2 x4).bind fun x => (appR x5.1 x).bind fun x => (divR x5.2 x4).bind fun x7 => Res.ok (x, x7)) (fun n s => Digs (sizes.take n) s.1) ⟨rfl, fun i s r e => by simp at e⟩ fun i x s hx hd => by
      have hs := hp x (List.mem_of_getElem? hx)
      have hl : s.1.length ≤ 100000 := by have := hd.1; rw [List.length_take] at this; omega
      refine ⟨(s.1 ++ [s.2 % x], s.2 / x), ?_, hd.snoc hx (Int.emod_nonneg _ (by omega)) (Int.emod_lt_of_pos _ hs.1)⟩
      rw [modR_pos hs.1]; dsimp only [Res.bind_ok]; rw [appR_ok (by omega)]; dsimp only [Res.bind_ok]; rw [divR_64 hs.1 hs.2]; rfl
    rw [List.take_length] at hd
    refine ⟨s.1, ?_, hd⟩
    rw [e]; rfl
  · rw [if_neg (by simpa using h), rngR_nat (by omega)]
    dsimp only [Res.bind_ok]
    have hm := Int.emod_nonneg c (show (2147483629 : Int) ≠ 0 by decide)
    have hm2 := Int.emod_lt_of_pos c (show (0 : Int) < 2147483629 by decide)
    obtain ⟨s, e, hd, _, _⟩ := forR_upto (n := sizes.length) (s := (([] : List Int), c % 2147483629)) (f := fun x10 x9 => (mulR x10.2 48271).bind fun x => (mulR 974711 x9).bind fun x_1 => (mulR ((x + x_1 + 12345) % 2147483647) ((x + x_1 + 12345) % 2147483647 / 65537 + 3)).bind fun x_2 => (ixR sizes x9).bind fun x_3 => (modR (x_2 % 2147483629 / 19) x_3).bind fun x_4 => (appR x10.1 x_4).bind fun x_5 => Res.ok (x_5, (x + x_1 + 12345) % 2147483647))
      (fun n s => Digs (sizes.take n) s.1 ∧ 0 ≤ s.2 ∧ s.2 < 2147483647) ⟨⟨rfl, fun i s r e => by simp at e⟩, hm, by omega⟩ fun i s hi hd => by
      obtain ⟨hd, h1, h2⟩ := hd
      have e := List.getElem?_eq_getElem hi
      have hs := hp sizes[i] (List.mem_of_getElem? e)
      have hl : s.1.length ≤ 100000 := by have := hd.1; rw [List.length_take] at this; omega
      generalize hs' : (s.2 * 48271 + 974711 * (i : Int) + 12345) % 2147483647 = s'
      have b1 : 0 ≤ s' := by rw [← hs']; exact Int.emod_nonneg _ (by decide)
      have b2 : s' < 2147483647 := by rw [← hs']; exact Int.emod_lt_of_pos _ (by decide)
      have b3 : 0 ≤ s' / 65537 ∧ s' / 65537 < 40000 := by omega
      refine ⟨(s.1 ++ [s' * (s' / 65537 + 3) % 2147483629 / 19 % sizes[i]], s'), ?_, hd.snoc e (Int.emod_nonneg _ (by omega)) (Int.emod_lt_of_pos _ hs.1), b1, b2⟩
      rw [mulR_64 (by omega) (by omega)]; dsimp only [Res.bind_ok]
      rw [mulR_64 (by omega) (by omega)]; dsimp only [Res.bind_ok]
      rw [hs', mulR_64 (by omega) (by omega)]; dsimp only [Res.bind_ok]
      rw [ixR_nat e]; dsimp only [Res.bind_ok]
      rw [modR_pos hs.1]; dsimp only [Res.bind_ok]
      rw [appR_ok (by omega)]; rfl
    rw [List.take_length] at hd
    refine ⟨s.1, ?_, hd⟩
    rw [e]; rfl
theorem law_gcd {a b : Int} (hz : a.natAbs * b.natAbs < GLim) : N_law_gcd_i_i a b = .ok (Int.gcd a b) := by
  unfold N_law_gcd_i_i
  have ea : (if a < 0 then -a else a) = ((a.natAbs : Nat) : Int) := by split <;> omega
  have eb : (if b < 0 then -b else b) = ((b.natAbs : Nat) : Int) := by split <;> omega
  rw [ea, eb, show (1000000 : Int) = ((1000000 : Nat) : Int) by rfl, rngR_nat (by omega)]
  simp only [Res.bind_assoc, Res.bind_ok, Res.bind_ret]
  obtain ⟨o, e, s, rfl, hs⟩ := forC_upto (σ := Int × Int) (τ := Unit) (n := 1000000) (s := (((a.natAbs : Nat) : Int), ((b.natAbs : Nat) : Int))) (f := fun x1 x2 => (if (decide (x1.2 = 0)) = true then Res.ok (.out (x1.1, x1.2)) else (modR x1.1 x1.2).bind fun x3 => Res.ok (.go (x1.2, x3))))
    (fun o => ∃ s, o = .go s ∧ s.1 = (Int.gcd a b : Int))
    (fun n s => ∃ (x y : Nat), s = ((x : Int), (y : Int)) ∧ Nat.gcd x y = Nat.gcd a.natAbs b.natAbs ∧ (n = 0 ∨ y < x) ∧ x * y * pw2 (n - 1) ≤ a.natAbs * b.natAbs)
    ⟨a.natAbs, b.natAbs, rfl, rfl, .inl rfl, by simp [pw2_0]⟩ (fun i s hi => by
      rintro ⟨x, y, rfl, hg, hl, hb⟩
      by_cases hy : y = 0
      · subst hy
        rw [Nat.gcd_zero_right] at hg
        refine ⟨.out ((x : Int), 0), by simp, ((x : Int), 0), rfl, ?_⟩
        show (x : Int) = _
        rw [hg]; rfl
      · have hy' : ¬ (y : Int) = 0 := by omega
        refine ⟨.go ((y : Int), ((x % y : Nat) : Int)), ?_, y, x % y, rfl, ?_, .inr (Nat.mod_lt x (by omega)), ?_⟩
        · rw [if_neg (by simpa using hy), modR_pos (by show (0 : Int) < (y : Int); omega)]; rfl
        · rw [← hg, Nat.gcd_comm x y, Nat.gcd_rec y x, Nat.gcd_comm]
        · rcases hl with rfl | hl
          · simp [pw2_0] at hb ⊢
            refine Nat.le_trans ?_ hb
            rw [Nat.mul_comm x y]
            exact Nat.mul_le_mul_left y (Nat.mod_le x y)
          · cases i with
            | zero =>
              simp [pw2_0] at hb ⊢
              refine Nat.le_trans ?_ hb
              rw [Nat.mul_comm x y]
              exact Nat.mul_le_mul_left y (Nat.mod_le x y)
            | succ j =>
              have := half_step hl (by omega)
              simp only [Nat.add_sub_cancel] at hb ⊢
              refine Nat.le_trans ?_ hb
              rw [pw2_succ, Nat.mul_comm (pw2 j) 2, ← Nat.mul_assoc]
              exact Nat.mul_le_mul_right _ this) (fun s => by
      rintro ⟨x, y, rfl, hg, hl, hb⟩
      have hxy : y < x := hl.resolve_left (by decide)
      have hy : y = 0 := by
        rcases Nat.eq_zero_or_pos y with h | h
        · exact h
        · exfalso
          have h1 : 1 ≤ x * y := Nat.mul_pos (by omega) h
          have h2 := Nat.mul_le_mul_right (pw2 (1000000 - 1)) h1
          rw [Nat.one_mul] at h2
          exact absurd (Nat.lt_of_le_of_lt (Nat.le_trans h2 hb) hz) (Nat.lt_irrefl _)
      subst hy
      rw [Nat.gcd_zero_right] at hg
      exact ⟨_, rfl, by show (x : Int) = _; rw [hg]; rfl⟩)
  rw [e]
  simp [hs]
theorem law_fraction {t b : Int} (hb : 0 < b) (ht : t.natAbs < Lim) (hb' : b.natAbs < Lim) : N_law_fraction_i_i t b = .ok (fq ((t : Rat) / (b : Rat))) := by
  have hg := law_gcd (glim ht hb')
  have g0 := gcd_pos' (t := t) hb
  have gl := gcd_lim (t := t) hb hb'
  show Nr_law_fraction_i_i 6 t b = _
  unfold Nr_law_fraction_i_i
  rw [if_neg (by simpa using show ¬ b < 0 by omega), hg]
  dsimp only [Res.bind_ok]
  rw [divR_pos g0 gl, divR_pos g0 gl, ← fqc_eq hb]; rfl
theorem ratio_q {t b : Int} (hb : 0 < b) (hb' : b.natAbs < Lim) : N_ratio_i_i t b = .ok (fq ((t : Rat) / (b : Rat))) := by
  have g0 := gcd_pos' (t := t) hb
  have gl := gcd_lim (t := t) hb hb'
  unfold N_ratio_i_i
  rw [if_neg (by simpa using show ¬ b = 0 by omega)]
  dsimp only [Res.bind_ok]
  rw [if_neg (by simpa using show ¬ b < 0 by omega)]
  dsimp only [Res.bind_ok]
  rw [show ((Nat.gcd t.natAbs b.natAbs : Nat) : Int) = (Int.gcd t b : Int) by rfl, divR_pos g0 gl, divR_pos g0 gl, ← fqc_eq hb]; rfl
theorem law_added_q {p q : Rat} (hp : Sm p) (hq : Sm q) : N_law_added_piiq_piiq (fq p) (fq q) = .ok (fq (p + q)) := by
  have h := law_fraction (den_pos p q) (sum_lim hp.1 hq.d hq.1 hp.d) (den_lim hp hq)
  rw [add_eq] at h
  unfold N_law_added_piiq_piiq
  simp only [fq_fst, fq_snd, mulR_44 hp.1 hq.d, mulR_44 hq.1 hp.d, mulR_44 hp.d hq.d, Res.bind_ok, h]
theorem added_q {p q : Rat} (hp : Sm p) (hq : Sm q) : N_added_piiq_piiq (fq p) (fq q) = .ok (fq (p + q)) := by
  have h := ratio_q (t := p.num * (q.den : Int) + q.num * (p.den : Int)) (den_pos p q) (den_lim hp hq)
  rw [add_eq] at h
  unfold N_added_piiq_piiq
  simp only [fq_fst, fq_snd, mulR_44 hp.1 hq.d, mulR_44 hq.1 hp.d, mulR_44 hp.d hq.d, Res.bind_ok, h]
theorem sum_loop' {m : Int × Int → Int × Int → Res (Int × Int)} (hm : ∀ p q : Rat, Sm p → Sm q → m (fq p) (fq q) = .ok (fq (p + q))) {L B : Nat} {qs : List Rat} (h0 : 0 < L) (hL : L < 2 ^ 4400) (hB : (qs.length + 1) * B < 2 ^ 4400) (h : ∀ q ∈ qs, In L B q) :
    forR m (qs.map fq) (0, 1) = .ok (fq (sumQ qs)) := by
  obtain ⟨s, e, rfl⟩ := forR_inv (xs := qs.map fq) (s := ((0, 1) : Int × Int)) (f := m) (fun n s => s = fq (sumQ (qs.take n))) rfl fun i x s hx hs => by
    subst hs
    rw [List.getElem?_map] at hx
    cases e : qs[i]? with
    | none => rw [e] at hx; cases hx
    | some q =>
      rw [e] at hx
      cases hx
      have hi := (List.getElem?_eq_some_iff.mp e).1
      have hq := h q (List.mem_of_getElem? e)
      have b1 : i * B < 2 ^ 4400 := Nat.lt_of_le_of_lt (Nat.mul_le_mul_right B (by omega)) hB
      have b2 : B < 2 ^ 4400 := Nat.lt_of_le_of_lt (Nat.le_mul_of_pos_left B (by omega)) hB
      refine ⟨_, hm _ _ ((In.sum h i).sm h0 hL b1) (hq.sm h0 hL b2), ?_⟩
      rw [List.take_add_one, e, Option.toList_some, sumQ_snoc]
  rw [e, List.length_map, List.take_length]
theorem fraction_sum_q {L B : Nat} {qs : List Rat} (h0 : 0 < L) (hL : L < 2 ^ 4400) (hB : (qs.length + 1) * B < 2 ^ 4400) (h : ∀ q ∈ qs, In L B q) : N_fraction_sum_lpiiq (qs.map fq) = .ok (fq (sumQ qs)) := by
  unfold N_fraction_sum_lpiiq
  simp only [Res.bind_ret]
  exact sum_loop' (fun p q hp hq => added_q hp hq) h0 hL hB h
theorem law_same_i {a b : Int} : N_law_same_i_i a b = .ok (decide (a = b)) := rfl
theorem law_same_pii {a b : Int × Int} : N_law_same_piiq_piiq a b = .ok (decide (a = b)) := by
  obtain ⟨a1, a2⟩ := a
  obtain ⟨b1, b2⟩ := b
  unfold N_law_same_piiq_piiq
  rw [if_neg (by decide), show (2 : Int) = ((2 : Nat) : Int) by rfl, rngR_nat (by omega), show upto 2 = [((0 : Nat) : Int), ((1 : Nat) : Int)] by rfl]
  simp only [Res.bind_ok, forC_cons, Res.bind_assoc]
  rw [ixR_nat (x := a1) (by rfl), ixR_nat (x := b1) (by rfl), ixR_nat (x := a2) (by rfl), ixR_nat (x := b2) (by rfl)]
  simp only [Res.bind_ok, law_same_i]
  by_cases h1 : a1 = b1 <;> by_cases h2 : a2 = b2 <;> simp [h1, h2]
theorem take_out' {L : List Int} {k : Nat} (hk : k < L.length) : (L[k] :: L.eraseIdx k).Perm L := by
  rw [List.eraseIdx_eq_take_drop_succ]
  have h := (List.perm_middle (a := L[k]) (l₁ := L.take k) (l₂ := L.drop (k + 1))).symm
  refine h.trans (List.Perm.of_eq ?_)
  rw [← List.drop_eq_getElem_cons hk, List.take_append_drop]
end Kx
namespace Kx
open PySem PySem.Spec L2 Da
theorem frozen_p (p : Int × Int) : N_frozen_piiq p = .ok p := rfl
theorem frozen_lp (r : List (Int × Int)) (h : r.length ≤ 1000000) : N_frozen_lpiiq r = .ok r := by
  unfold N_frozen_lpiiq
  rw [Res.bind_ret, lcR_map (g := fun x => x) h (fun x _ => frozen_p x), List.map_id']
end Kx
namespace Kx
open PySem PySem.Spec L2 Da
open PySem PySem.Spec L2 Da
theorem ixR_mem {α : Type} {xs : List α} {i : Int} (h0 : 0 ≤ i) (h : i < xs.length) : ∃ t, ixR xs i = .ok t ∧ t ∈ xs := ⟨xs[i.toNat]'(by omega), ixR_of h0 (List.getElem?_eq_getElem (by omega)), List.getElem_mem _⟩
end Kx
namespace Da
theorem Digs.get {sizes row : List Int} (h : Digs sizes row) {i : Nat} {s : Int} (hs : sizes[i]? = some s) : ∃ r, row[i]? = some r ∧ 0 ≤ r ∧ r < s := by
  have hi := (List.getElem?_eq_some_iff.mp hs).1
  have hi' : i < row.length := by rw [h.1]; exact hi
  exact ⟨row[i], List.getElem?_eq_getElem hi', h.2 i s _ hs (List.getElem?_eq_getElem hi')⟩
theorem Digs.ix {sizes row : List Int} (h : Digs sizes row) {i : Nat} {s : Int} (hs : sizes[i]? = some s) : ∃ r, ixR row (i : Int) = .ok r ∧ 0 ≤ r ∧ r < s := by
  obtain ⟨r, e, h⟩ := h.get hs
  exact ⟨r, ixR_nat e, h⟩
end Da
namespace Kx
open PySem PySem.Spec L2 Da
def Nd (n : Nat) (x : Int) : Prop := 0 ≤ x ∧ x < n
theorem Nd.nat {n : Nat} {x : Int} (h : Nd n x) : ∃ k : Nat, x = k ∧ k < n := ⟨x.toNat, by have := h.1; omega, by have := h.1; have := h.2; omega⟩
theorem Nd.of {n k : Nat} (h : k < n) : Nd n (k : Int) := ⟨by omega, by omega⟩
def nb (N : List (List Int)) (a : Int) : List Int := N.getD a.toNat []
structure Net0 (n : Nat) (L : List (Int × Int)) : Prop where
  pos : 0 < n
  le : n ≤ 24
  few : L.length < 64
  lk : ∀ p ∈ L, 0 ≤ p.1 ∧ p.1 < p.2 ∧ p.2 < n
  nd : L.Nodup
  srt : L.Pairwise (fun a b => leP a b = true)
  con : ∀ S : Int → Prop, S 0 → (∀ p ∈ L, S p.1 ↔ S p.2) → ∀ k, Nd n k → S k
structure Near (n : Nat) (N : List (List Int)) : Prop where
  len : N.length = n
  pos : 0 < n
  le : n ≤ 24
  rng : ∀ a b, Nd n a → b ∈ nb N a → Nd n b ∧ b ≠ a
  sym : ∀ a b, Nd n a → b ∈ nb N a → a ∈ nb N b
  few : ∀ a, (nb N a).length ≤ 1000
  con : ∀ S : Int → Prop, (∀ a b, Nd n a → b ∈ nb N a → S a → S b) → ∀ s t, Nd n s → Nd n t → S s → S t
theorem ix_nb {n : Nat} {N : List (List Int)} (h : N.length = n) {a : Int} (ha : Nd n a) : ixR N a = .ok (nb N a) := by
  obtain ⟨k, rfl, hk⟩ := ha.nat
  rw [ixR_nat (List.getElem?_eq_getElem (by omega))]
  unfold nb
  rw [List.getD_eq_getElem?_getD, Int.toNat_natCast, List.getElem?_eq_getElem (by omega)]
  rfl
def nbrs (L : List (Int × Int)) (a : Int) : List Int := L.flatMap fun p => (if p.1 = a then [p.2] else []) ++ (if p.2 = a then [p.1] else [])
def nearOf (n : Nat) (L : List (Int × Int)) : List (List Int) := (List.range n).map fun (a : Nat) => (nbrs L (a : Int)).mergeSort leI
theorem mem_nbrs {L : List (Int × Int)} {a b : Int} : b ∈ nbrs L a ↔ (a, b) ∈ L ∨ (b, a) ∈ L := by
  unfold nbrs
  rw [List.mem_flatMap]
  constructor
  · rintro ⟨⟨x, y⟩, hp, hb⟩
    rcases List.mem_append.mp hb with h | h
    · split at h
      · rename_i e
        have : b = y := by simpa using h
        subst this; cases e
        exact .inl hp
      · cases h
    · split at h
      · rename_i e
        have : b = x := by simpa using h
        subst this; cases e
        exact .inr hp
      · cases h
  · rintro (h | h)
    · exact ⟨_, h, List.mem_append_left _ (by simp)⟩
    · exact ⟨_, h, List.mem_append_right _ (by simp)⟩
theorem nbrs_len {L : List (Int × Int)} {a : Int} : (nbrs L a).length ≤ 2 * L.length := by
  unfold nbrs
  induction L with
  | nil => simp
  | cons p L ih =>
    rw [List.flatMap_cons, List.length_append, List.length_append, List.length_cons]
    have h1 : (if p.1 = a then [p.2] else []).length ≤ 1 := by split <;> simp
    have h2 : (if p.2 = a then [p.1] else []).length ≤ 1 := by split <;> simp
    omega
theorem nb_nearOf {n : Nat} {L : List (Int × Int)} {a : Int} (ha : Nd n a) : nb (nearOf n L) a = (nbrs L a).mergeSort leI := by
  obtain ⟨k, rfl, hk⟩ := ha.nat
  unfold nb nearOf
  rw [List.getD_eq_getElem?_getD, Int.toNat_natCast, List.getElem?_map, List.getElem?_range hk]
  rfl
theorem nearOf_len {n : Nat} {L : List (Int × Int)} : (nearOf n L).length = n := by unfold nearOf; rw [List.length_map, List.length_range]
theorem mem_nearOf {n : Nat} {L : List (Int × Int)} {a b : Int} (ha : Nd n a) : b ∈ nb (nearOf n L) a ↔ (a, b) ∈ L ∨ (b, a) ∈ L := by
  rw [nb_nearOf ha, List.mem_mergeSort, mem_nbrs]
theorem nb_off {N : List (List Int)} {a : Int} (h : N.length ≤ a.toNat) : nb N a = [] := by
  unfold nb
  rw [List.getD_eq_getElem?_getD, List.getElem?_eq_none_iff.mpr h]
  rfl
theorem Net0.near {n : Nat} {L : List (Int × Int)} (h : Net0 n L) : Near n (nearOf n L) := by
  have hin : ∀ a b, Nd n a → b ∈ nb (nearOf n L) a → Nd n b ∧ b ≠ a := fun a b ha hb => by
    rcases (mem_nearOf ha).mp hb with z | z
    · obtain ⟨z1, z2, z3⟩ : 0 ≤ a ∧ a < b ∧ b < n := h.lk _ z
      exact ⟨⟨by omega, z3⟩, by omega⟩
    · obtain ⟨z1, z2, z3⟩ : 0 ≤ b ∧ b < a ∧ a < n := h.lk _ z
      exact ⟨⟨z1, by omega⟩, by omega⟩
  refine ⟨nearOf_len, h.pos, h.le, hin, fun a b ha hb => ?_, fun a => ?_, fun S hS s t hs ht ss => ?_⟩
  · rw [mem_nearOf (hin a b ha hb).1]
    exact ((mem_nearOf ha).mp hb).symm
  · by_cases hl : a.toNat < n
    · have : nb (nearOf n L) a = nb (nearOf n L) ((a.toNat : Nat) : Int) := by unfold nb; rw [Int.toNat_natCast]
      rw [this, nb_nearOf (Nd.of hl), List.length_mergeSort]
      have := nbrs_len (L := L) (a := ((a.toNat : Nat) : Int))
      have := h.few
      omega
    · rw [nb_off (by rw [nearOf_len]; omega)]
      simp
  · have h0 : Nd n 0 := ⟨by omega, by have := h.pos; omega⟩
    have key : ∀ k, Nd n k → (S k ↔ S 0) := h.con (fun k => S k ↔ S 0) Iff.rfl fun p hp => by
      have hl := h.lk p hp
      have i1 : Nd n p.1 := ⟨hl.1, by omega⟩
      have i2 : Nd n p.2 := ⟨by omega, hl.2.2⟩
      have e : S p.1 ↔ S p.2 := ⟨hS p.1 p.2 i1 ((mem_nearOf i1).mpr (.inl hp)), hS p.2 p.1 i2 ((mem_nearOf i2).mpr (.inr hp))⟩
      rw [e]
    exact (key t ht).mpr ((key s hs).mp ss)
theorem app2_map {n : Nat} {f : Nat → List Int} {z : Nat} {x : Int} (hz : z < n) (hl : (f z).length < 1000000) : app2R ((List.range n).map f) (z : Int) x = .ok ((List.range n).map fun a => if a = z then f a ++ [x] else f a) := by
  unfold app2R
  rw [List.length_map, List.length_range, show ixN n (z : Int) = some z by unfold ixN; rw [if_pos (by omega), if_pos (by omega)]; simp]
  simp only [List.getElem?_map, List.getElem?_range hz, Option.map_some]
  rw [if_pos (szOk_yes hl)]
  congr 1
  refine List.ext_getElem? fun i => ?_
  rw [List.getElem?_set, List.getElem?_map]
  by_cases hi : i < n
  · rw [List.getElem?_range hi]
    by_cases h : z = i
    · subst h
      rw [if_pos rfl, if_pos (by simpa using hz), List.getElem?_map, List.getElem?_range hz]
      simp
    · rw [if_neg h, List.getElem?_map, List.getElem?_range hi]
      simp [show ¬ i = z from fun e => h e.symm]
  · rw [List.getElem?_eq_none_iff.mpr (by simp; omega)]
    by_cases h : z = i
    · omega
    · rw [if_neg h, List.getElem?_eq_none_iff.mpr (by simp; omega)]
      rfl
theorem near_loop {n : Nat} {L : List (Int × Int)} (hl : ∀ p ∈ L, 0 ≤ p.1 ∧ p.1 < p.2 ∧ p.2 < n) (hz : L.length < 64) : forR (fun x4 x5 => (app2R x4 x5.1 x5.2).bind fun x6 => app2R x6 x5.2 x5.1) L ((List.range n).map fun _ => []) = .ok ((List.range n).map fun (a : Nat) => nbrs L (a : Int)) := by
  obtain ⟨s, e, p⟩ := forR_inv (xs := L) (s := (List.range n).map fun _ => ([] : List Int)) (f := fun x4 (x5 : Int × Int) => (app2R x4 x5.1 x5.2).bind fun x6 => app2R x6 x5.2 x5.1) (fun i s => s = (List.range n).map fun (a : Nat) => nbrs (L.take i) (a : Int)) (by rw [List.take_zero]; rfl) fun i x s hx hs => by
    subst hs
    have hi := (List.getElem?_eq_some_iff.mp hx).1
    have hp := hl x (List.mem_of_getElem? hx)
    obtain ⟨a, b⟩ := x
    obtain ⟨q1, q2, q3⟩ : 0 ≤ a ∧ a < b ∧ b < n := hp
    obtain ⟨a, rfl⟩ : ∃ k : Nat, a = k := ⟨a.toNat, by omega⟩
    obtain ⟨b, rfl⟩ : ∃ k : Nat, b = k := ⟨b.toNat, by omega⟩
    have h1 : a < b := by omega
    have h2 : b < n := by omega
    have hb : ∀ c : Int, (nbrs (L.take i) c).length ≤ 126 := fun c => by
      have := nbrs_len (L := L.take i) (a := c)
      rw [List.length_take] at this
      omega
    refine ⟨_, ?_, rfl⟩
    show (app2R _ (a : Int) (b : Int)).bind _ = _
    rw [app2_map (by omega) (by have := hb a; omega)]
    dsimp only [Res.bind_ok]
    rw [app2_map h2 (by rw [if_neg (by omega)]; have := hb b; omega)]
    congr 1
    refine List.map_congr_left fun c _ => ?_
    rw [List.take_succ, hx]
    unfold nbrs
    rw [List.flatMap_append]
    show _ = _ ++ ((if (a : Int) = c then [(b : Int)] else []) ++ (if (b : Int) = c then [(a : Int)] else []) ++ [])
    by_cases e1 : c = b
    · rw [if_pos e1, if_neg (by omega), if_neg (by omega), if_pos (by omega)]; simp
    · rw [if_neg e1]
      by_cases e2 : c = a
      · rw [if_pos e2, if_pos (by omega), if_neg (by omega)]; simp
      · rw [if_neg e2, if_neg (by omega), if_neg (by omega)]; simp
  rw [List.take_length] at p
  rw [e, p]
theorem empties {n : Nat} (hn : n ≤ 24) : ((rngR (n : Int)).bind fun x2 => lcR x2 (fun x1 => Res.ok true) (fun x1 => (Res.ok ([] : List Int)))) = .ok ((List.range n).map fun _ => []) := by
  rw [rngR_nat (by omega)]
  dsimp only [Res.bind_ok]
  rw [lcR_map (g := fun _ => []) (by rw [upto_length]; omega) fun x _ => rfl]
  congr 1
  unfold upto
  rw [List.map_map]
  rfl
theorem law_near {n : Nat} {L : List (Int × Int)} (h : Net0 n L) : N_law_near_i_lpiiq n L = .ok (nearOf n L) := by
  unfold N_law_near_i_lpiiq
  simp only [Res.bind_ret]
  rw [empties h.le]
  dsimp only [Res.bind_ok]
  rw [near_loop h.lk h.few]
  dsimp only [Res.bind_ok]
  refine (lcR_map (g := fun x : List Int => x.mergeSort leI) (by rw [List.length_map, List.length_range]; have := h.le; omega) fun x _ => rfl).trans ?_
  unfold nearOf
  rw [List.map_map]
  rfl
theorem near_nodes {n : Nat} {L : List (Int × Int)} (h : Net0 n L) : N_near_nodes_i_tpiiq n L = .ok (nearOf n L) := by
  unfold N_near_nodes_i_tpiiq
  simp only [Res.bind_ret]
  rw [empties h.le]
  dsimp only [Res.bind_ok]
  rw [near_loop h.lk h.few]
  dsimp only [Res.bind_ok]
  refine (lcR_map (g := fun x : List Int => x.mergeSort leI) (by rw [List.length_map, List.length_range]; have := h.le; omega) fun x _ => rfl).trans ?_
  unfold nearOf
  rw [List.map_map]
  rfl
theorem is_link {n : Nat} {p : Int × Int} (h : 0 ≤ p.1 ∧ p.1 < p.2 ∧ p.2 < n) : N_is_link_i_piiq n p = .ok true := by
  unfold N_is_link_i_piiq
  rw [if_neg (by simp; omega)]
  rw [lcR_map (g := fun x => (decide (0 ≤ x)) && (decide (x < (n : Int)))) (by simp) fun x _ => rfl]
  dsimp only [Res.bind_ok]
  congr 1
  simp
  omega
theorem onceI_nd : ∀ {xs : List Int}, xs.Nodup → onceI xs = xs
  | [], _ => rfl
  | x :: xs, h => by
    obtain ⟨h1, h2⟩ := List.nodup_cons.mp h
    unfold onceI
    rw [if_neg h1, onceI_nd h2]
theorem sortP_id {L : List (Int × Int)} (h : ∀ p ∈ L, P64 p) (nd : L.Nodup) (srt : L.Pairwise (fun a b => leP a b = true)) : sortP L = L := by
  unfold sortP
  have e : ∀ p ∈ L, dcP (cdP p) = p := fun p hp => dc_cd (h p hp)
  have ed : (L.map cdP).map dcP = L := by
    rw [List.map_map]
    exact (List.map_congr_left (g := fun p => p) fun p hp => e p hp).trans (List.map_id' L)
  have nd2 : (L.map cdP).Nodup := by
    refine List.pairwise_map.mpr (nd.imp_of_mem fun {a b} ha hb hab z => hab ?_)
    rw [← e a ha, ← e b hb, z]
  rw [onceI_nd nd2, List.mergeSort_of_pairwise, ed]
  rw [List.pairwise_map]
  refine srt.imp_of_mem fun {a b} ha hb hab => ?_
  have h1 := h a ha
  have h2 := h b hb
  unfold leP at hab
  unfold leI cdP
  unfold P64 at h1 h2
  simp only [decide_eq_true_eq] at hab ⊢
  omega
theorem checked_links {n : Nat} {L : List (Int × Int)} (h : Net0 n L) : N_checked_links_i_tpiiq n L = .ok L := by
  unfold N_checked_links_i_tpiiq
  have h64 : ∀ p ∈ L, P64 p := fun p hp => by
    have := h.lk p hp
    have := h.le
    exact ⟨by omega, by omega, by omega, by omega⟩
  have e1 : forR (fun (x1 : Unit) (x2 : Int × Int × Int) => ((N_is_link_i_piiq n x2.2).bind fun x3 => Res.ok (!x3)).bind fun x4 => if x4 = true then (Res.ex "BadLink" [("index", D.int x2.1)]) else Res.ok ()) (enumI 0 L) () = .ok () := by
    obtain ⟨s, e, _⟩ := forR_inv (xs := enumI 0 L) (s := ()) (f := fun (x1 : Unit) (x2 : Int × Int × Int) => ((N_is_link_i_piiq n x2.2).bind fun x3 => Res.ok (!x3)).bind fun x4 => if x4 = true then (Res.ex "BadLink" [("index", D.int x2.1)]) else Res.ok ()) (fun _ _ => True) trivial fun i x s hx _ => by
      obtain ⟨k, y⟩ := x
      have hy : y ∈ L := List.mem_of_getElem? (enumI_at hx).2
      refine ⟨(), ?_, trivial⟩
      show ((N_is_link_i_piiq n y).bind fun x3 => Res.ok (!x3)).bind _ = _
      rw [is_link (h.lk y hy)]
      rfl
    exact e
  rw [e1]
  dsimp only [Res.bind_ok]
  rw [lcR_map (g := fun p => p) (by have := h.few; omega) fun p hp => by
    have := h.lk p hp
    rw [if_neg (by omega), if_pos (by omega)]]
  rw [List.map_id']
  dsimp only [Res.bind_ok]
  unfold sortPR
  rw [if_pos ⟨List.all_eq_true.mpr fun p hp => decide_eq_true (h64 p hp), h.few⟩, sortP_id h64 h.nd h.srt]
  rfl
end Kx
namespace Kx
open PySem PySem.Spec L2 Da
theorem tr_while {σ τ : Type} {c : σ → Res Bool} {f : σ → Res (Ctl σ τ)} {s : σ} {Q : Ctl σ τ → Prop} (P : σ → Prop) (μ : σ → Nat) (h0 : P s) (hn : μ s < 1000000)
    (hc : ∀ s, P s → Tr (c s) fun b => (b = false → Q (.go s)) ∧ (b = true → Tr (f s) fun o => match o with
    | .go s' => P s' ∧ μ s' < μ s
    | .out s' => Q (.go s')
    | .ret b => Q (.ret b))) : Tr (whileC c f FUEL s) Q :=
  whileC_inv Q P μ (fun s p => by
    obtain ⟨b, e, h1, h2⟩ := hc s p
    exact ⟨b, e, h1, fun hb => h2 hb⟩) FUEL s h0 (by unfold FUEL; omega)
def kn (K : List Bool) (x : Int) : Bool := K.getD x.toNat false
theorem ix_kn {n : Nat} {K : List Bool} (h : K.length = n) {x : Int} (hx : Nd n x) : ixR K x = .ok (kn K x) := by
  obtain ⟨k, rfl, hk⟩ := hx.nat
  rw [ixR_nat (List.getElem?_eq_getElem (by omega))]
  unfold kn
  rw [List.getD_eq_getElem?_getD, Int.toNat_natCast, List.getElem?_eq_getElem (by omega)]
  rfl
theorem kn_set {n : Nat} {K : List Bool} (h : K.length = n) {x y : Int} (hx : Nd n x) : kn (K.set x.toNat true) y = if x.toNat = y.toNat then true else kn K y := by
  unfold kn
  have := hx.1
  have := hx.2
  rw [List.getD_eq_getElem?_getD, List.getD_eq_getElem?_getD, List.getElem?_set]
  split
  · rw [if_pos (by omega)]; rfl
  · rfl
structure Vis (n : Nat) (K : List Bool) (W : List Int) (c : Bool) (x : Int) (s : List Bool × List Int) : Prop where
  len : s.1.length = n
  mono : ∀ y, kn K y = true → kn s.1 y = true
  new : ∀ y, Nd n y → kn s.1 y = true → kn K y = true ∨ y ∈ s.2
  keep : ∀ w ∈ W, w ∈ s.2
  src : ∀ w ∈ s.2, w ∈ W ∨ (w = x ∧ kn s.1 x = true)
  hit : c = true → kn s.1 x = true
  mu : 2 * s.1.count false + s.2.length ≤ 2 * K.count false + W.length
theorem visit {n : Nat} {K : List Bool} {W : List Int} {c : Bool} {x : Int} (hK : K.length = n) (hx : Nd n x) (hW : W.length < 1000000) :
    Tr ((if c = true then (ixR K x).bind fun x18 => Res.ok (!x18) else Res.ok false).bind fun x21 => if x21 = true then (setR K x true).bind fun x19 => (appR W x).bind fun x20 => Res.ok (x19, x20) else Res.ok (K, W)) (Vis n K W c x) := by
  have same : (c = true → kn K x = true) → Vis n K W c x (K, W) := fun h => ⟨hK, fun y z => z, fun y _ z => .inl z, fun w z => z, fun w z => .inl z, h, Nat.le_refl _⟩
  cases c with
  | false => exact Tr.ok (same fun z => nomatch z)
  | true =>
    rw [if_pos rfl, ix_kn hK hx]
    dsimp only [Res.bind_ok]
    cases hk : kn K x with
    | true => exact Tr.ok (same fun _ => hk)
    | false =>
      have hx0 := hx.1
      have hx1 := hx.2
      show Tr (if (!false) = true then _ else _) _
      rw [if_pos (by decide), setR_of hx.1 (by omega)]
      dsimp only [Res.bind_ok]
      rw [appR_ok hW]
      refine Tr.ok ⟨by rw [List.length_set]; exact hK, fun y z => ?_, fun y hy z => ?_, fun w z => List.mem_append_left _ z, fun w z => ?_, fun _ => ?_, ?_⟩
      · rw [kn_set hK hx]; split
        · rfl
        · exact z
      · rw [kn_set hK hx] at z
        split at z
        · rename_i e
          have := hy.1
          exact .inr (List.mem_append_right _ (List.mem_singleton.mpr (by omega)))
        · exact .inl z
      · rcases List.mem_append.mp z with z | z
        · exact .inl z
        · refine .inr ⟨List.mem_singleton.mp z, ?_⟩
          rw [kn_set hK hx, if_pos rfl]
      · rw [kn_set hK hx, if_pos rfl]
      · have hl : x.toNat < K.length := by omega
        have e : K[x.toNat] = false := by
          unfold kn at hk
          rw [List.getD_eq_getElem?_getD, List.getElem?_eq_getElem hl] at hk
          exact hk
        have hp : 0 < K.count false := List.count_pos_iff.mpr (by rw [← e]; exact List.getElem_mem hl)
        have hc : (K.set x.toNat true).count false = K.count false - 1 := by
          rw [List.count_set hl, e]
          simp
        show 2 * (K.set x.toNat true).count false + (W ++ [x]).length ≤ _
        rw [hc, List.length_append, List.length_singleton]
        omega
structure DfsP (n : Nat) (L : List (Int × Int)) (s : List Bool × List Int) : Prop where
  len : s.1.length = n
  wt : ∀ w ∈ s.2, Nd n w ∧ kn s.1 w = true
  zero : kn s.1 0 = true
  cl1 : ∀ p ∈ L, kn s.1 p.1 = true → p.1 ∈ s.2 ∨ kn s.1 p.2 = true
  cl2 : ∀ p ∈ L, kn s.1 p.2 = true → p.2 ∈ s.2 ∨ kn s.1 p.1 = true
  mu : 2 * s.1.count false + s.2.length ≤ 100
theorem bind_eq {α β : Type} {r : Res α} {v : α} {f : α → Res β} {Q : β → Prop} (h : r = .ok v) (k : Tr (f v) Q) : Tr (r.bind f) Q := by rw [h]; exact k
theorem reached {n : Nat} {L : List (Int × Int)} (h : Net0 n L) : Tr (N_reached_i_tpiiq_i n L 0) fun r => r = upto n := by
  have hn := h.le
  have hp := h.pos
  unfold N_reached_i_tpiiq_i
  have hl : (List.replicate n false).length = n := List.length_replicate
  have z0 : Nd n 0 := ⟨by omega, by omega⟩
  refine bind_eq (v := List.replicate n false) ?_ ?_
  · rw [rngR_nat (by omega)]
    refine (lcR_map (g := fun _ => false) (by rw [upto_length]; omega) fun x _ => rfl).trans ?_
    rw [List.map_const', upto_length]
  refine bind_eq (setR_of (by omega) (by rw [hl]; omega)) ?_
  have st : DfsP n L ((List.replicate n false).set (0 : Int).toNat true, [0]) := by
    have ek : ∀ y, kn ((List.replicate n false).set (0 : Int).toNat true) y = true → y.toNat = 0 := fun y hy => by
      rw [kn_set hl z0] at hy
      split at hy
      · rename_i e; exact e.symm
      · unfold kn at hy
        rw [List.getD_eq_getElem?_getD, List.getElem?_replicate] at hy
        split at hy <;> cases hy
    refine ⟨by rw [List.length_set, hl], fun w hw => ?_, ?_, fun p hp hk => ?_, fun p hp hk => ?_, ?_⟩
    · have : w = 0 := by simpa using hw
      rw [this]
      exact ⟨z0, by rw [kn_set hl z0, if_pos rfl]⟩
    · rw [kn_set hl z0, if_pos rfl]
    · have := ek _ hk
      have := h.lk p hp
      exact .inl (List.mem_singleton.mpr (by omega))
    · have := ek _ hk
      have := h.lk p hp
      exact .inl (List.mem_singleton.mpr (by omega))
    · have := List.count_le_length (a := false) (l := (List.replicate n false).set (0 : Int).toNat true)
      rw [List.length_set, hl] at this
      show 2 * ((List.replicate n false).set (0 : Int).toNat true).count false + 1 ≤ 100
      omega
  refine Tr.bind (Q := fun s : List Bool × List Int => DfsP n L s ∧ s.2 = []) (Tr.bind (Q := fun o => ∃ s : List Bool × List Int, o = Ctl.go s ∧ DfsP n L s ∧ s.2 = []) (tr_while (DfsP n L) (fun s => 2 * s.1.count false + s.2.length) st (by have := st.mu; omega) ?_) ?_) ?_
  · rintro ⟨K, W⟩ hs
    refine Tr.ok ⟨fun he => ⟨_, rfl, hs, by simpa using he⟩, fun he => ?_⟩
    have hW : W ≠ [] := by simpa using he
    have hlast : W[W.length - 1]? = some (W.getLast hW) := by
      rw [← List.getLast?_eq_getElem?, List.getLast?_eq_some_getLast hW]
    have ew : W = W.dropLast ++ [W.getLast hW] := (List.dropLast_concat_getLast hW).symm
    have ep : pop0R W = .ok (W.getLast hW, W.dropLast) := by unfold pop0R; rw [hlast]
    refine bind_eq (v := (W.getLast hW, W.dropLast)) (by rw [ep]; rfl) ?_
    generalize W.getLast hW = v at *
    generalize W.dropLast = W2 at *
    have mu := hs.mu
    have len := hs.len
    have wt := hs.wt
    dsimp only at mu len wt
    have hvW : v ∈ W := by rw [ew]; simp
    have lw : W.length = W2.length + 1 := by rw [ew]; simp
    have hb := List.count_le_length (a := false) (l := K)
    refine Tr.bind (Q := fun s : List Bool × List Int => s.1.length = n ∧ (∀ w ∈ s.2, Nd n w ∧ kn s.1 w = true) ∧ (∀ y, kn K y = true → kn s.1 y = true) ∧ (∀ y, Nd n y → kn s.1 y = true → kn K y = true ∨ y ∈ s.2) ∧ (∀ w ∈ W2, w ∈ s.2) ∧ (∀ p ∈ L, (p.1 = v → kn s.1 p.2 = true) ∧ (p.2 = v → kn s.1 p.1 = true)) ∧ 2 * s.1.count false + s.2.length ≤ 2 * K.count false + W2.length)
      (tr_forR (fun i (s : List Bool × List Int) => s.1.length = n ∧ (∀ w ∈ s.2, Nd n w ∧ kn s.1 w = true) ∧ (∀ y, kn K y = true → kn s.1 y = true) ∧ (∀ y, Nd n y → kn s.1 y = true → kn K y = true ∨ y ∈ s.2) ∧ (∀ w ∈ W2, w ∈ s.2) ∧ (∀ p ∈ L.take i, (p.1 = v → kn s.1 p.2 = true) ∧ (p.2 = v → kn s.1 p.1 = true)) ∧ 2 * s.1.count false + s.2.length ≤ 2 * K.count false + W2.length) ?_ ?_ ?_) ?_
    · exact ⟨len, fun w hw => wt w (by rw [ew]; exact List.mem_append_left _ hw), fun y z => z, fun y _ z => .inl z, fun w z => z, fun p hp => by simp at hp, Nat.le_refl _⟩
    · rintro i p ⟨K1, W1⟩ hx ⟨h1, h2, h3, h4, h5, h6, h7⟩
      dsimp only at h1 h2 h3 h4 h5 h6 h7
      have hpL := List.mem_of_getElem? hx
      have hl := h.lk p hpL
      have n1 : Nd n p.1 := ⟨hl.1, by omega⟩
      have n2 : Nd n p.2 := ⟨by omega, hl.2.2⟩
      refine Tr.bind (visit (c := decide (p.1 = v)) h1 n2 (W := W1) (by omega)) ?_
      rintro ⟨K2, W2'⟩ q1
      have m1 := q1.mu
      dsimp only at m1
      refine Tr.bind (visit (c := decide (p.2 = v)) q1.len n1 (W := W2') (by omega)) ?_
      rintro ⟨K3, W3⟩ q2
      have m2 := q2.mu
      dsimp only at m2
      refine Tr.ok ⟨q2.len, fun w hw => ?_, fun y z => q2.mono y (q1.mono y (h3 y z)), fun y hy z => ?_, fun w hw => q2.keep w (q1.keep w (h5 w hw)), fun r hr => ?_, by dsimp only; omega⟩
      · rcases q2.src w hw with z | ⟨rfl, z⟩
        · rcases q1.src w z with z1 | ⟨z2, z1⟩
          · exact ⟨(h2 w z1).1, q2.mono w (q1.mono w (h2 w z1).2)⟩
          · exact ⟨by rw [z2]; exact n2, by rw [z2]; exact q2.mono _ z1⟩
        · exact ⟨n1, z⟩
      · rcases q2.new y hy z with z | z
        · rcases q1.new y hy z with z | z
          · rcases h4 y hy z with z | z
            · exact .inl z
            · exact .inr (q2.keep y (q1.keep y z))
          · exact .inr (q2.keep y z)
        · exact .inr z
      · rw [List.take_succ, hx] at hr
        rcases List.mem_append.mp hr with z | z
        · exact ⟨fun e => q2.mono _ (q1.mono _ ((h6 r z).1 e)), fun e => q2.mono _ (q1.mono _ ((h6 r z).2 e))⟩
        · have : r = p := by simpa using z
          subst this
          exact ⟨fun e => q2.mono _ (q1.hit (decide_eq_true e)), fun e => q2.hit (decide_eq_true e)⟩
    · rintro s ⟨a1, a2, a3, a4, a5, a6, a7⟩
      rw [List.take_length] at a6
      exact ⟨a1, a2, a3, a4, a5, a6, a7⟩
    · rintro ⟨K', W'⟩ ⟨a1, a2, a3, a4, a5, a6, a7⟩
      dsimp only at a1 a2 a3 a4 a5 a6 a7
      refine Tr.ok ⟨⟨a1, a2, a3 0 hs.zero, fun p hp hk => ?_, fun p hp hk => ?_, by dsimp only; omega⟩, by dsimp only; omega⟩
      · have hl := h.lk p hp
        have n1 : Nd n p.1 := ⟨hl.1, by omega⟩
        rcases a4 p.1 n1 hk with z | z
        · rcases hs.cl1 p hp z with z | z
          · dsimp only at z
            rw [ew] at z
            rcases List.mem_append.mp z with z | z
            · exact .inl (a5 _ z)
            · exact .inr ((a6 p hp).1 (List.mem_singleton.mp z))
          · exact .inr (a3 _ z)
        · exact .inl z
      · have hl := h.lk p hp
        have n2 : Nd n p.2 := ⟨by omega, hl.2.2⟩
        rcases a4 p.2 n2 hk with z | z
        · rcases hs.cl2 p hp z with z | z
          · dsimp only at z
            rw [ew] at z
            rcases List.mem_append.mp z with z | z
            · exact .inl (a5 _ z)
            · exact .inr ((a6 p hp).2 (List.mem_singleton.mp z))
          · exact .inr (a3 _ z)
        · exact .inl z
  · rintro o ⟨s, rfl, p, e⟩
    exact Tr.ok ⟨p, e⟩
  · rintro ⟨K, W⟩ ⟨p, e⟩
    dsimp only at e
    subst e
    have all : ∀ k, Nd n k → kn K k = true := h.con (fun k => kn K k = true) p.zero fun q hq => by
      have c1 := p.cl1 q hq
      have c2 := p.cl2 q hq
      dsimp only at c1 c2
      exact ⟨fun z => (c1 z).resolve_left (fun z => nomatch z), fun z => (c2 z).resolve_left (fun z => nomatch z)⟩
    refine bind_eq (v := upto n) ?_ (Tr.ok rfl)
    rw [rngR_nat (by omega)]
    refine (lcR_filter (p := fun _ => true) (g := fun x => x) (by rw [upto_length]; omega) (fun x hx => ?_) fun x _ _ => rfl).trans ?_
    · show ixR K x = _
      rw [ix_kn p.len (mem_upto.mp hx), all x (mem_upto.mp hx)]
    · rw [List.filter_eq_self.mpr fun _ _ => rfl, List.map_id']
def lanesOf (n : Nat) (N : List (List Int)) : List (Int × Int) := (upto n).flatMap fun a => (nb N a).map fun b => (a, b)
theorem lanes_len {n : Nat} {N : List (List Int)} (h : Near n N) : (lanesOf n N).length ≤ 24000 := by
  have key : ∀ xs : List Int, ((xs.flatMap fun a => (nb N a).map fun b => (a, b)).length) ≤ xs.length * 1000 := fun xs => by
    induction xs with
    | nil => simp
    | cons x xs ih =>
      rw [List.flatMap_cons, List.length_append, List.length_map, List.length_cons]
      have := h.few x
      omega
  have := key (upto n)
  rw [upto_length] at this
  have := h.le
  unfold lanesOf
  omega
theorem lc2_flat {α β γ : Type} {xs : List α} {i1 : α → Res (List β)} {f : α → β → Res γ} {g : α → List β} {k : α → β → γ} (h1 : ∀ x ∈ xs, i1 x = .ok (g x)) (h2 : ∀ x ∈ xs, ∀ y ∈ g x, f x y = .ok (k x y)) (hz : (xs.flatMap fun x => (g x).map (k x)).length ≤ 1000000) :
    lc2R xs (fun _ => .ok true) i1 (fun _ _ => .ok true) f = .ok (xs.flatMap fun x => (g x).map (k x)) := by
  have inner : ∀ (x : α) (ys : List β), (∀ y ∈ ys, f x y = .ok (k x y)) → lcR.go (fun _ => .ok true) (f x) ys = .ok (ys.map (k x)) := fun x ys => by
    induction ys with
    | nil => exact fun _ => rfl
    | cons y ys ih =>
      intro h
      unfold lcR.go
      rw [h y List.mem_cons_self, ih fun z hz => h z (List.mem_cons_of_mem _ hz)]
      rfl
  have outer : ∀ ws : List α, (∀ x ∈ ws, x ∈ xs) → lc2R.go (fun _ => .ok true) i1 (fun _ _ => .ok true) f ws = .ok (ws.flatMap fun x => (g x).map (k x)) := fun ws => by
    induction ws with
    | nil => exact fun _ => rfl
    | cons w ws ih =>
      intro h
      have hw := h w List.mem_cons_self
      unfold lc2R.go
      rw [h1 w hw, ih fun z hz => h z (List.mem_cons_of_mem _ hz)]
      show (Res.ok true).bind _ = _
      dsimp only [Res.bind_ok, nx_ok]
      rw [if_pos rfl, inner w (g w) (h2 w hw)]
      rfl
  unfold lc2R
  rw [outer xs fun x h => h]
  dsimp only [Res.bind_ok]
  rw [if_pos (szOk_yes hz)]
theorem lanes_of {n : Nat} {N : List (List Int)} (h : Near n N) : N_lanes_of_tti N = .ok (lanesOf n N) := by
  unfold N_lanes_of_tti
  rw [h.len, rngR_nat (by have := h.le; omega)]
  simp only [Res.bind_ret, Res.bind_ok]
  exact lc2_flat (fun x hx => ix_nb h.len (mem_upto.mp hx)) (fun x _ y _ => rfl) (by have := lanes_len h; unfold lanesOf at this; omega)
theorem law_lanes {n : Nat} {N : List (List Int)} (h : Near n N) : N_law_lanes_lli N = .ok (lanesOf n N) := by
  unfold N_law_lanes_lli
  rw [h.len, rngR_nat (by have := h.le; omega)]
  simp only [Res.bind_ret, Res.bind_ok]
  have hl := lanes_len h
  unfold lanesOf at hl
  have := forR_flat (f := fun x1 x2 => (ixR N x2).bind fun x6 => forR (fun x3 x4 => appR x3 (x2, x4)) x6 x1) (g := fun a => (nb N a).map fun b => (a, b)) (B := 1000000) (xs := upto n) (s := []) (fun x hx s hs => by
    rw [List.length_map] at hs
    show (ixR N x).bind _ = _
    rw [ix_nb h.len (mem_upto.mp hx)]
    dsimp only [Res.bind_ok]
    exact forR_app (g := fun b => (x, b)) (fun y _ s hs => appR_ok hs) (by omega)) (by simp only [List.length_nil]; omega)
  rw [List.nil_append] at this
  exact this
abbrev NetV := Int × List (Int × Int) × List (List Int) × List (Int × Int)
def netV (n : Nat) (L : List (Int × Int)) : NetV := ((n : Int), L, nearOf n L, lanesOf n (nearOf n L))
theorem frozen_l (L : List (Int × Int)) (h : L.length ≤ 1000000) : N_frozen_lpiiq L = .ok L := frozen_lp L h
theorem net_init {n : Nat} {L : List (Int × Int)} (h : Net0 n L) : N_Net_init_i_lpiiq n L = .ok (netV n L) := by
  have hn := h.le
  have hp := h.pos
  unfold N_Net_init_i_lpiiq
  rw [if_neg (by simp; omega)]
  rw [frozen_l L (by have := h.few; omega)]
  dsimp only [Res.bind_ok]
  rw [checked_links h]
  dsimp only [Res.bind_ok]
  rw [near_nodes h]
  dsimp only [Res.bind_ok]
  rw [lanes_of h.near]
  dsimp only [Res.bind_ok]
  rw [(reached h).eq]
  dsimp only [Res.bind_ok]
  rw [rngR_nat (by omega)]
  dsimp only [Res.bind_ok]
  obtain ⟨s, e, _⟩ := forR_inv (xs := upto n) (s := ()) (f := fun (x7 : Unit) (x8 : Int) => if (!decide (x8 ∈ upto n)) = true then (Res.ex "NotConnected" [("node", D.int x8)]) else Res.ok ()) (fun _ _ => True) trivial fun i x s hx _ => by
    exact ⟨(), by rw [if_neg (by simp [List.mem_of_getElem? hx])], trivial⟩
  rw [e]
  rfl
end Kx
namespace Kx
open PySem PySem.Spec L2 Da
theorem nodup_le {n : Nat} {r : List Int} (nd : r.Nodup) (rg : ∀ x ∈ r, Nd n x) : r.length ≤ n := by
  have := nd.length_le_of_subset (l₂ := upto n) fun x hx => mem_upto.mpr (rg x hx)
  rwa [upto_length] at this
theorem ix_last {α : Type} {r : List α} {x : α} (h : r.getLast? = some x) (hz : r.length < 1000000) : ixR r (-1) = .ok x := by
  have hr : r ≠ [] := by intro e; rw [e] at h; cases h
  have hl : 0 < r.length := List.length_pos_iff.mpr hr
  unfold ixR atI ixN
  rw [if_neg (by omega), if_pos (by omega)]
  rw [List.getLast?_eq_getElem?] at h
  show (match r[(-1 + (r.length : Int)).toNat]? with | some x => Res.ok x | none => .er) = _
  rw [show (-1 + (r.length : Int)).toNat = r.length - 1 by omega, h]
theorem ix_head {α : Type} {r : List α} {x : α} (h : r.head? = some x) : ixR r 0 = .ok x := by
  cases r with
  | nil => cases h
  | cons y r => cases h; exact ixR_nat (i := 0) rfl
/-- each node is followed by a neighbor -/
def Stp (N : List (List Int)) (r : List Int) : Prop := ∀ (i : Nat) a b, r[i]? = some a → r[i + 1]? = some b → b ∈ nb N a
structure Rt (n : Nat) (N : List (List Int)) (u v : Int) (r : List Int) : Prop where
  hd : r.head? = some u
  la : r.getLast? = some v
  nd : r.Nodup
  rg : ∀ x ∈ r, Nd n x
  st : Stp N r
theorem Rt.len {n : Nat} {N : List (List Int)} {u v : Int} {r : List Int} (h : Rt n N u v r) : r.length ≤ n := nodup_le h.nd h.rg
theorem Rt.ne {n : Nat} {N : List (List Int)} {u v : Int} {r : List Int} (h : Rt n N u v r) : r ≠ [] := fun e => by have := h.hd; rw [e] at this; cases this
theorem Stp.one {N : List (List Int)} {x : Int} : Stp N [x] := fun i a b h1 h2 => by simp at h2
theorem Stp.snoc {N : List (List Int)} {r : List Int} {a b : Int} (h : Stp N r) (hl : r.getLast? = some a) (hb : b ∈ nb N a) : Stp N (r ++ [b]) := fun i x y h1 h2 => by
  by_cases hi : i + 1 < r.length
  · rw [List.getElem?_append_left (by omega)] at h1 h2
    exact h i x y h1 h2
  · have hlt := (List.getElem?_eq_some_iff.mp h2).1
    rw [List.length_append, List.length_singleton] at hlt
    have e : i + 1 = r.length := by omega
    rw [e, List.getElem?_concat_length] at h2
    rw [List.getElem?_append_left (by omega)] at h1
    rw [List.getLast?_eq_getElem?, show r.length - 1 = i by omega, h1] at hl
    cases h2; cases hl
    exact hb
def lanesR (r : List Int) : List (Int × Int) := (List.range (r.length - 1)).map fun (k : Nat) => (r.getD k 0, r.getD (k + 1) 0)
theorem frozen_t (r : List Int) (h : r.length ≤ 1000000) : N_frozen_ti r = .ok r := by
  unfold N_frozen_ti
  simp only [Res.bind_ret]
  exact (lcR_map (g := fun x => x) h fun x _ => rfl).trans (by rw [List.map_id'])
theorem frozen_lt (r : List (List Int)) (h : r.length ≤ 1000000) (h2 : ∀ x ∈ r, x.length ≤ 1000000) : N_frozen_lti r = .ok r := by
  unfold N_frozen_lti
  simp only [Res.bind_ret]
  exact (lcR_map (g := fun x => x) h fun x hx => frozen_t x (h2 x hx)).trans (by rw [List.map_id'])
theorem frozen_llt (r : List (List (List Int))) (h : r.length ≤ 1000000) (h2 : ∀ x ∈ r, x.length ≤ 1000000) (h3 : ∀ x ∈ r, ∀ y ∈ x, y.length ≤ 1000000) : N_frozen_llti r = .ok r := by
  unfold N_frozen_llti
  simp only [Res.bind_ret]
  exact (lcR_map (g := fun x => x) h fun x hx => frozen_lt x (h2 x hx) (h3 x hx)).trans (by rw [List.map_id'])
theorem getD_at {r : List Int} {k : Nat} (h : k < r.length) : r[k]? = some (r.getD k 0) := by
  rw [List.getD_eq_getElem?_getD, List.getElem?_eq_getElem h]; rfl
theorem route_lanes {r : List Int} (h0 : r ≠ []) (h : r.length ≤ 1000000) : N_route_lanes_ti r = .ok (lanesR r) := by
  have hl : 0 < r.length := List.length_pos_iff.mpr h0
  unfold N_route_lanes_ti
  simp only [Res.bind_ret]
  rw [show (r.length : Int) - 1 = ((r.length - 1 : Nat) : Int) by omega, rngR_nat (by omega)]
  dsimp only [Res.bind_ok]
  refine (lcR_map (g := fun x => (r.getD x.toNat 0, r.getD (x.toNat + 1) 0)) (by rw [upto_length]; omega) fun x hx => ?_).trans ?_
  · obtain ⟨k, rfl, hk⟩ := Nd.nat (mem_upto.mp hx)
    rw [ixR_nat (getD_at (by omega)), show (k : Int) + 1 = ((k + 1 : Nat) : Int) by omega]
    dsimp only [Res.bind_ok]
    rw [ixR_nat (getD_at (by omega))]
    rfl
  · unfold lanesR upto
    rw [List.map_map]
    rfl
theorem Rt.lane {n : Nat} {N : List (List Int)} {u v : Int} {r : List Int} (h : Rt n N u v r) {p : Int × Int} (hp : p ∈ lanesR r) : Nd n p.1 ∧ Nd n p.2 ∧ p.2 ∈ nb N p.1 := by
  obtain ⟨k, hk, rfl⟩ := List.mem_map.mp hp
  have hk := List.mem_range.mp hk
  have e1 := getD_at (r := r) (k := k) (by omega)
  have e2 := getD_at (r := r) (k := k + 1) (by omega)
  exact ⟨h.rg _ (List.mem_of_getElem? e1), h.rg _ (List.mem_of_getElem? e2), h.st k _ _ e1 e2⟩
theorem is_route {n : Nat} {L : List (Int × Int)} (hn : Net0 n L) {u v : Int} {r : List Int} (h : Rt n (nearOf n L) u v r) : N_is_route_cNetitpiiqttitpiiqq_ti_i_i (netV n L) r u v = .ok true := by
  have hlen := h.len
  have hle := hn.le
  unfold N_is_route_cNetitpiiqttitpiiqq_ti_i_i
  rw [frozen_t r (by omega)]
  dsimp only [Res.bind_ok]
  have e0 : (!(!r.isEmpty)) = false := by
    cases hr : r with
    | nil => exact absurd hr h.ne
    | cons x r => rfl
  rw [if_neg (by rw [e0]; decide)]
  rw [lcR_map (g := fun _ => true) (by omega) fun x hx => by
    have := h.rg x hx
    show Res.ok ((decide (0 ≤ x)) && (decide (x < (n : Int)))) = _
    rw [decide_eq_true this.1, decide_eq_true this.2]
    rfl]
  dsimp only [Res.bind_ok]
  have ea : (r.map fun _ => true).all id = true := List.all_eq_true.mpr fun b hb => by
    obtain ⟨x, _, rfl⟩ := List.mem_map.mp hb
    rfl
  rw [ea]
  rw [if_neg (by decide)]
  rw [ix_head h.hd]
  dsimp only [Res.bind_ok]
  rw [show (!decide (u = u)) = false by simp, if_neg (by decide)]
  rw [ix_last h.la (by omega)]
  dsimp only [Res.bind_ok]
  rw [show (!decide (v = v)) = false by simp, if_neg (by decide)]
  have ed : lenSetR r = .ok (r.length : Int) := by
    unfold lenSetR
    rw [if_pos (by omega), dedupI_nodup.mpr h.nd]
  rw [ed]
  dsimp only [Res.bind_ok]
  rw [show (!decide ((r.length : Int) = (r.length : Int))) = false by simp]
  rw [if_neg (by decide), route_lanes h.ne (by omega)]
  dsimp only [Res.bind_ok]
  rw [lcR_map (g := fun _ => true) (by unfold lanesR; rw [List.length_map, List.length_range]; omega) fun p hp => by
    obtain ⟨h1, h2, h3⟩ := h.lane hp
    show (ixR (nearOf n L) p.1).bind _ = _
    rw [ix_nb nearOf_len h1]
    show Res.ok (decide (p.2 ∈ nb (nearOf n L) p.1)) = _
    rw [decide_eq_true h3]]
  dsimp only [Res.bind_ok]
  rw [List.all_eq_true.mpr fun b hb => by
    obtain ⟨x, _, rfl⟩ := List.mem_map.mp hb
    rfl]
def rtAt (R : List (List (List Int))) (u v : Nat) : List Int := (R.getD u []).getD v []
/-- rows of routes -/
structure Rows (n : Nat) (N : List (List Int)) (R : List (List (List Int))) : Prop where
  len : R.length = n
  row : ∀ (u : Nat), u < n → (R.getD u []).length = n
  rt : ∀ (u v : Nat), u < n → v < n → Rt n N u v (rtAt R u v)
theorem getD_some {α : Type} {xs : List α} {d : α} {i : Nat} (h : i < xs.length) : xs[i]? = some (xs.getD i d) := by
  rw [List.getD_eq_getElem?_getD, List.getElem?_eq_getElem h]; rfl
theorem mem_getD {α : Type} {xs : List α} {d x : α} (h : x ∈ xs) : ∃ i, i < xs.length ∧ x = xs.getD i d := by
  obtain ⟨i, hi⟩ := List.mem_iff_getElem?.mp h
  have hl := (List.getElem?_eq_some_iff.mp hi).1
  refine ⟨i, hl, ?_⟩
  rw [getD_some (d := d) hl] at hi
  cases hi
  rfl
theorem Rows.ix {n : Nat} {N : List (List Int)} {R : List (List (List Int))} (h : Rows n N R) {u v : Nat} (hu : u < n) (hv : v < n) : ((ixR R (u : Int)).bind fun x => ixR x (v : Int)) = .ok (rtAt R u v) := by
  rw [ixR_nat (getD_some (d := []) (by rw [h.len]; exact hu))]
  dsimp only [Res.bind_ok]
  rw [ixR_nat (getD_some (d := []) (by rw [h.row u hu]; exact hv))]
  rfl
theorem Rows.small {n : Nat} {N : List (List Int)} {R : List (List (List Int))} (h : Rows n N R) (hn : n ≤ 24) : R.length ≤ 1000000 ∧ (∀ x ∈ R, x.length ≤ 1000000) ∧ ∀ x ∈ R, ∀ y ∈ x, y.length ≤ 1000000 := by
  refine ⟨by have := h.len; omega, fun x hx => ?_, fun x hx y hy => ?_⟩
  · obtain ⟨u, hu, rfl⟩ := mem_getD (d := []) hx
    rw [h.len] at hu
    have := h.row u hu
    omega
  · obtain ⟨u, hu, rfl⟩ := mem_getD (d := []) hx
    rw [h.len] at hu
    obtain ⟨v, hv, rfl⟩ := mem_getD (d := []) hy
    rw [h.row u hu] at hv
    have := (h.rt u v hu hv).len
    unfold rtAt at this
    omega
end Kx
namespace Kx
open PySem PySem.Spec L2 Da
/-- from x to y by nodes that are not in r (x itself may be) -/
inductive Av (N : List (List Int)) (r : List Int) : Int → Int → Prop
  | refl (x : Int) : Av N r x x
  | step {x c y : Int} (h : c ∈ nb N x) (hr : c ∉ r) (t : Av N r c y) : Av N r x y
section
variable {n : Nat} {N : List (List Int)}
theorem Av.split {r : List Int} {b : Int} : ∀ {x v : Int}, Av N r x v → Av N (r ++ [b]) x v ∨ (b = v ∨ ∃ c, c ∈ nb N b ∧ c ∉ r ++ [b] ∧ Av N (r ++ [b]) c v)
  | _, _, .refl x => .inl (.refl x)
  | x, v, .step (c := c) h hr t => by
    rcases Av.split (b := b) t with z | z
    · by_cases e : c = b
      · subst e
        right
        cases z with
        | refl => exact .inl rfl
        | step h2 hr2 t2 => exact .inr ⟨_, h2, hr2, t2⟩
      · exact .inl (.step h (fun m => by
          rcases List.mem_append.mp m with m | m
          · exact hr m
          · exact e (List.mem_singleton.mp m)) z)
    · exact .inr z
/-- behind the next node -/
theorem Av.next {r : List Int} {b v : Int} (h : Av N r b v) : b = v ∨ ∃ c, c ∈ nb N b ∧ c ∉ r ++ [b] ∧ Av N (r ++ [b]) c v := by
  rcases h.split (b := b) with z | z
  · cases z with
    | refl => exact .inl rfl
    | step h2 hr2 t2 => exact .inr ⟨_, h2, hr2, t2⟩
  · exact z
theorem Near.av (h : Near n N) {u v : Int} (hu : Nd n u) (hv : Nd n v) : Av N [] u v := by
  have key : ∀ (x y : Int), Av N [] x y → ∀ z, z ∈ nb N y → Av N [] x z := fun x y t => by
    induction t with
    | refl x => exact fun z hz => .step hz (fun m => nomatch m) (.refl z)
    | step h1 h2 _ ih => exact fun z hz => .step h1 h2 (ih z hz)
  exact h.con (fun y => Av N [] u y) (fun a b _ hb ha => key u a ha b hb) u v hu hv (.refl u)
theorem nb_len (h : Near n N) (a : Int) : (nb N a).length ≤ 1000000 := by have := h.few a; omega
/-- reached nodes, processed up to i -/
structure Bf (n : Nat) (N : List (List Int)) (r : List Int) (b : Int) (i : Nat) (R : List Int) : Prop where
  nd : R.Nodup
  rg : ∀ y ∈ R, Nd n y
  st : b ∈ R
  snd : ∀ y ∈ R, ∀ z, Av N r y z → Av N r b z
  cl : ∀ j, j < i → ∀ y, R[j]? = some y → ∀ c ∈ nb N y, c ∈ R ∨ c ∈ r
theorem reaches (h : Near n N) {r : List Int} {b v : Int} (hb : Nd n b) : Tr (N_law_reaches_lli_li_i_i N r b v) fun t => (t = true ↔ Av N r b v) := by
  have hn := h.le
  unfold N_law_reaches_lli_li_i_i
  rw [h.len, rngR_nat (by omega)]
  refine Tr.bind (Q := Bf n N r b n) (Tr.bind (Tr.ok rfl) fun x hx => ?_) fun R hR => ?_
  · subst hx
    refine tr_forRn (fun i R => Bf n N r b i R) ⟨by simp, fun y hy => by rw [List.mem_singleton.mp hy]; exact hb, by simp, fun y hy z t => by rw [List.mem_singleton.mp hy] at t; exact t, fun j hj => by omega⟩ (fun i R hi hR => ?_) fun R hR => hR
    have hlen := nodup_le hR.nd hR.rg
    by_cases hlt : i < R.length
    · rw [if_pos (by simpa using hlt)]
      refine Tr.bind (Q := Bf n N r b (i + 1)) ?_ fun s hs => Tr.bind (Tr.ok hs) fun s hs => Tr.ok hs
      refine Tr.bind (Q := Bf n N r b (i + 1)) ?_ fun s hs => Tr.ok hs
      have ey := List.getElem?_eq_getElem hlt
      generalize R[i] = y at ey
      have hy := hR.rg y (List.mem_of_getElem? ey)
      refine bind_eq (by rw [ixR_nat ey]; exact ix_nb h.len hy) ?_
      refine tr_forR (fun k s => s.Nodup ∧ (∀ z ∈ s, Nd n z) ∧ (∃ t, s = R ++ t) ∧ (∀ y ∈ s, ∀ z, Av N r y z → Av N r b z) ∧ ∀ c ∈ (nb N y).take k, c ∈ s ∨ c ∈ r) ⟨hR.nd, hR.rg, ⟨[], by simp⟩, hR.snd, fun c hc => by simp at hc⟩ (fun k c s hc hs => ?_) fun s hs => ?_
      · obtain ⟨s1, s2, ⟨t, s3⟩, s4, s5⟩ := hs
        have hcm := List.mem_of_getElem? hc
        have hcn := (h.rng y c hy hcm).1
        have hl := nodup_le s1 s2
        have ext : ∀ d ∈ (nb N y).take (k + 1), d ∈ (nb N y).take k ∨ d = c := fun d hd => by
          rw [List.take_succ, hc] at hd
          rcases List.mem_append.mp hd with z | z
          · exact .inl z
          · exact .inr (by simpa using z)
        by_cases h1 : c ∈ s ∨ c ∈ r
        · rw [if_neg (by
            rcases h1 with z | z
            · simp [z]
            · simp [z])]
          exact Tr.ok ⟨s1, s2, ⟨t, s3⟩, s4, fun d hd => (ext d hd).elim (s5 d) fun e => by rw [e]; exact h1⟩
        · have h2 : c ∉ s := fun z => h1 (.inl z)
          have h3 : c ∉ r := fun z => h1 (.inr z)
          rw [if_pos (by simp [h2, h3]), appR_ok (by omega)]
          refine Tr.ok ⟨?_, fun z hz => ?_, ⟨t ++ [c], by rw [s3, List.append_assoc]⟩, fun z hz w tw => ?_, fun d hd => ?_⟩
          · rw [List.nodup_append]
            exact ⟨s1, by simp, fun a ha b hb e => h2 (by rw [← List.mem_singleton.mp hb, ← e]; exact ha)⟩
          · rcases List.mem_append.mp hz with z1 | z1
            · exact s2 z z1
            · rw [List.mem_singleton.mp z1]; exact hcn
          · rcases List.mem_append.mp hz with z1 | z1
            · exact s4 z z1 w tw
            · rw [List.mem_singleton.mp z1] at tw
              exact hR.snd y (List.mem_of_getElem? ey) w (.step hcm h3 tw)
          · rcases ext d hd with z | z
            · exact (s5 d z).imp (List.mem_append_left _) id
            · exact .inl (List.mem_append_right _ (List.mem_singleton.mpr z))
      · obtain ⟨s1, s2, ⟨t, s3⟩, s4, s5⟩ := hs
        rw [List.take_length] at s5
        refine ⟨s1, s2, by rw [s3]; exact List.mem_append_left _ hR.st, s4, fun j hj z hz c hc => ?_⟩
        rw [s3, List.getElem?_append_left (by omega)] at hz
        by_cases hji : j = i
        · subst hji
          rw [ey] at hz
          cases hz
          exact s5 c hc
        · exact (hR.cl j (by omega) z hz c hc).imp (fun m => by rw [s3]; exact List.mem_append_left _ m) id
    · rw [if_neg (by simpa using hlt)]
      refine Tr.ok ⟨hR.nd, hR.rg, hR.st, hR.snd, fun j hj z hz c hc => ?_⟩
      have := (List.getElem?_eq_some_iff.mp hz).1
      exact hR.cl j (by omega) z hz c hc
  · have hlen := nodup_le hR.nd hR.rg
    refine Tr.ok ⟨fun e => ?_, fun t => ?_⟩
    · exact hR.snd v (of_decide_eq_true e) v (.refl v)
    · refine decide_eq_true ?_
      have key : ∀ x y, Av N r x y → x ∈ R → y ∈ R := fun x y t => by
        induction t with
        | refl x => exact id
        | @step x c y h1 h2 _ ih =>
          intro hx
          obtain ⟨j, hj⟩ := List.mem_iff_getElem?.mp hx
          have hjl := (List.getElem?_eq_some_iff.mp hj).1
          exact ih ((hR.cl j (by omega) x hj c h1).resolve_right h2)
      exact key b v t hR.st
/-- a route under way to v -/
structure Fr (n : Nat) (N : List (List Int)) (u v : Int) (i : Nat) (r : List Int) : Prop where
  len : r.length = i + 1
  hd : r.head? = some u
  nd : r.Nodup
  rg : ∀ x ∈ r, Nd n x
  st : Stp N r
theorem Fr.one {u v : Int} (hu : Nd n u) : Fr n N u v 0 [u] := ⟨rfl, rfl, by simp, fun x hx => by rw [List.mem_singleton.mp hx]; exact hu, Stp.one⟩
theorem Fr.last {u v : Int} {i : Nat} {r : List Int} (h : Fr n N u v i r) : ∃ a, r.getLast? = some a ∧ Nd n a ∧ a ∈ r := by
  have hr : r ≠ [] := fun e => by have := h.len; rw [e] at this; simp at this
  exact ⟨r.getLast hr, List.getLast?_eq_some_getLast hr, h.rg _ (List.getLast_mem hr), List.getLast_mem hr⟩
theorem Fr.done {u v : Int} {i : Nat} {r : List Int} (h : Fr n N u v i r) (hl : r.getLast? = some v) : Rt n N u v r := ⟨h.hd, hl, h.nd, h.rg, h.st⟩
theorem Fr.snoc {u v : Int} {i : Nat} {r : List Int} {a b : Int} (hN : Near n N) (h : Fr n N u v i r) (hl : r.getLast? = some a) (hb : b ∈ nb N a) (hr : b ∉ r) : Fr n N u v (i + 1) (r ++ [b]) := by
  have ha : a ∈ r := List.mem_of_getLast? hl
  refine ⟨by rw [List.length_append, h.len]; rfl, ?_, ?_, fun x hx => ?_, h.st.snoc hl hb⟩
  · have := h.hd
    cases r with
    | nil => cases this
    | cons x r => exact this
  · rw [List.nodup_append]
    exact ⟨h.nd, by simp, fun x hx y hy e => hr (by rw [← List.mem_singleton.mp hy, ← e]; exact hx)⟩
  · rcases List.mem_append.mp hx with z | z
    · exact h.rg x z
    · rw [List.mem_singleton.mp z]
      exact (hN.rng a b (h.rg a ha) hb).1
theorem Fr.full {u v : Int} {r : List Int} (h : Fr n N u v n r) : False := by
  have := nodup_le h.nd h.rg
  have := h.len
  omega
theorem pick {xs : List Int} {k : Int} (h : xs ≠ []) (hz : xs.length ≤ 1000000) : ∃ x, ixR xs (k % (xs.length : Int)) = .ok x ∧ x ∈ xs ∧ modR k (xs.length : Int) = .ok (k % (xs.length : Int)) ∧ divR k (xs.length : Int) = .ok (k / (xs.length : Int)) := by
  have hl : 0 < xs.length := List.length_pos_iff.mpr h
  have h0 := Int.emod_nonneg k (show (xs.length : Int) ≠ 0 by omega)
  have h1 := Int.emod_lt_of_pos k (show (0 : Int) < xs.length by omega)
  obtain ⟨x, e, m⟩ := ixR_mem (xs := xs) h0 h1
  exact ⟨x, e, m, modR_pos (by omega), divR_64 (by omega) (by omega)⟩
theorem free_route (h : Near n N) {u v : Int} {k : Int} (hu : Nd n u) (hv : Nd n v) : Tr (N_law_free_route_lli_i_i_i N u v k) (Rt n N u v) := by
  have hn := h.le
  unfold N_law_free_route_lli_i_i_i
  rw [h.len, rngR_nat (by omega)]
  refine Tr.bind (Q := fun s : List Int × Int => Rt n N u v s.1) (Tr.bind (Tr.ok rfl) fun x hx => ?_) fun s hs => Tr.ok hs
  subst hx
  refine Tr.bind (Q := fun o => ∃ s : List Int × Int, o = Ctl.go s ∧ Rt n N u v s.1) ?_ ?_
  · refine tr_forCn (fun i (s : List Int × Int) => Fr n N u v i s.1 ∧ (∀ a, s.1.getLast? = some a → a = v ∨ ∃ c, c ∈ nb N a ∧ c ∉ s.1 ∧ Av N s.1 c v)) ⟨Fr.one hu, fun a ha => ?_⟩ ?_ ?_
    · cases ha
      have := (h.av hu hv).next
      exact this
    · rintro i ⟨r, k⟩ hi ⟨hF, hA⟩
      dsimp only at hF hA
      obtain ⟨a, ea, na, ma⟩ := hF.last
      have hlen := hF.len
      refine bind_eq (v := decide (a = v)) (by rw [ix_last ea (by omega)]; rfl) ?_
      by_cases hav : a = v
      · subst hav
        rw [decide_eq_true rfl, if_pos rfl]
        exact Tr.ok ⟨_, rfl, hF.done ea⟩
      · rw [decide_eq_false hav, if_neg (by decide)]
        refine bind_eq (v := (nb N a).filter fun x => !decide (x ∈ r)) ?_ ?_
        · rw [ix_last ea (by omega)]
          dsimp only [Res.bind_ok]
          rw [ix_nb h.len na]
          dsimp only [Res.bind_ok]
          exact (lcR_filter (p := fun x => !decide (x ∈ r)) (g := fun x => x) (nb_len h a) (fun x _ => rfl) fun x _ _ => rfl).trans (by rw [List.map_id'])
        have inr : ∀ x ∈ (nb N a).filter fun x => !decide (x ∈ r), x ∈ nb N a ∧ x ∉ r := fun x hx => by
          rw [List.mem_filter] at hx
          exact ⟨hx.1, by simpa using hx.2⟩
        have fl : ((nb N a).filter fun x => !decide (x ∈ r)).length ≤ 1000000 := Nat.le_trans (List.length_filter_le _ _) (nb_len h a)
        let p : Int → Bool := fun x => @decide (Av N r x v) (Classical.propDecidable _)
        have hp : ∀ x, p x = true ↔ Av N r x v := fun x => @decide_eq_true_iff _ (Classical.propDecidable _)
        refine bind_eq (v := ((nb N a).filter fun x => !decide (x ∈ r)).filter p) ?_ ?_
        · refine (lcR_filter (p := p) (g := fun x => x) fl (fun x hx => ?_) fun x _ _ => rfl).trans (by rw [List.map_id'])
          obtain ⟨t, et, ht⟩ := reaches h (r := r) (v := v) (h.rng a x na (inr x hx).1).1
          rw [et]
          show Res.ok t = _
          congr 1
          rw [Bool.eq_iff_iff, ht, hp]
        obtain ⟨c, c1, c2, c3⟩ := (hA a ea).resolve_left hav
        have hne : ((nb N a).filter fun x => !decide (x ∈ r)).filter p ≠ [] := fun e => by
          have : c ∈ ((nb N a).filter fun x => !decide (x ∈ r)).filter p := List.mem_filter.mpr ⟨List.mem_filter.mpr ⟨c1, by simpa using c2⟩, (hp c).mpr c3⟩
          rw [e] at this
          cases this
        obtain ⟨x, ex, mx, em, ed⟩ := pick (k := k) hne (Nat.le_trans (List.length_filter_le _ _) fl)
        refine bind_eq em (bind_eq ed ?_)
        rw [ex]
        dsimp only [Res.bind_ok]
        rw [appR_ok (by omega)]
        rw [List.mem_filter] at mx
        obtain ⟨x1, x2⟩ := inr x mx.1
        refine Tr.ok ⟨hF.snoc h ea x1 x2, fun b hb => ?_⟩
        rw [List.getLast?_concat] at hb
        cases hb
        exact ((hp x).mp mx.2).next
    · rintro ⟨r, k⟩ ⟨hF, _⟩
      exact hF.full.elim
  · rintro o ⟨s, rfl, hs⟩
    exact Tr.ok hs
end
end Kx
namespace Kx
open PySem PySem.Spec L2 Da
def dst (row : List (Option Int)) (x : Int) : Option Int := row.getD x.toNat none
end Kx
namespace Kx
open PySem PySem.Spec L2 Da
section
variable {n : Nat} {N : List (List Int)}
/-- a route under way: the potential falls -/
structure Dr (n : Nat) (N : List (List Int)) (P : Int → Int) (u v : Int) (i : Nat) (r : List Int) : Prop where
  fr : Fr n N u v i r
  lo : ∀ a, r.getLast? = some a → ∀ x ∈ r, P a ≤ P x
theorem Dr.one {P : Int → Int} {u v : Int} (hu : Nd n u) : Dr n N P u v 0 [u] := ⟨Fr.one hu, fun a ha x hx => by cases ha; rw [List.mem_singleton.mp hx]; exact Int.le_refl _⟩
theorem Dr.snoc {P : Int → Int} {u v : Int} {i : Nat} {r : List Int} {a b : Int} (hN : Near n N) (h : Dr n N P u v i r) (hl : r.getLast? = some a) (hb : b ∈ nb N a) (hp : P b < P a) : Dr n N P u v (i + 1) (r ++ [b]) := by
  have hr : b ∉ r := fun m => by have := h.lo a hl b m; omega
  refine ⟨h.fr.snoc hN hl hb hr, fun c hc x hx => ?_⟩
  rw [List.getLast?_concat] at hc
  cases hc
  rcases List.mem_append.mp hx with z | z
  · have := h.lo a hl x z; omega
  · rw [List.mem_singleton.mp z]; exact Int.le_refl _
/-- the same without coming back -/
inductive Ws (N : List (List Int)) (p : Int → Int → Int) (g : Int) : List Int → Int → Int → Prop
  | nil : Ws N p g [g] g 0
  | step {r : List Int} {x c w : Int} (h : c ∈ nb N x) (hr : x ∉ r) (t : Ws N p g r c w) : Ws N p g (x :: r) x (p x c + w)
theorem Ws.mem {p : Int → Int → Int} {g : Int} : ∀ {r : List Int} {x w : Int}, Ws N p g r x w → r.Nodup ∧ x ∈ r
  | _, _, _, .nil => ⟨by simp, by simp⟩
  | _, _, _, .step h hr t => ⟨List.nodup_cons.mpr ⟨hr, (Ws.mem t).1⟩, by simp⟩
theorem Ws.rg (hN : Near n N) {p : Int → Int → Int} {g : Int} (hg : Nd n g) : ∀ {r : List Int} {x w : Int}, Ws N p g r x w → Nd n x → ∀ y ∈ r, Nd n y
  | _, _, _, .nil, _ => fun y hy => by rw [List.mem_singleton.mp hy]; exact hg
  | _, _, _, .step h hr t, hx => fun y hy => by
    rcases List.mem_cons.mp hy with z | z
    · rw [z]; exact hx
    · exact Ws.rg hN hg t (hN.rng _ _ hx h).1 y z
end
end Kx
namespace Kx
open PySem PySem.Spec L2 Da
section
variable {n : Nat} {N : List (List Int)}
def Le (n : Nat) (r' r : List (Option Int)) : Prop := ∀ x, Nd n x → ∀ d, dst r x = some d → ∃ e, dst r' x = some e ∧ e ≤ d
theorem Le.rfl {r : List (Option Int)} : Le n r r := fun x _ d h => ⟨d, h, Int.le_refl _⟩
theorem Le.tr {a b c : List (Option Int)} (h : Le n a b) (k : Le n b c) : Le n a c := fun x hx d e => by
  obtain ⟨e1, h1, l1⟩ := k x hx d e
  obtain ⟨e2, h2, l2⟩ := h x hx e1 h1
  exact ⟨e2, h2, by omega⟩
/-- the edge is not too long -/
def Ok (p : Int → Int → Int) (r r0 : List (Option Int)) (x c : Int) : Prop := ∀ d, dst r0 c = some d → ∃ e, dst r x = some e ∧ e ≤ p x c + d
theorem Ok.le {p : Int → Int → Int} {r r' r0 : List (Option Int)} {x c : Int} (hx : Nd n x) (h : Ok p r r0 x c) (l : Le n r' r) : Ok p r' r0 x c := fun d hd => by
  obtain ⟨e, h1, h2⟩ := h d hd
  obtain ⟨e', h3, h4⟩ := l x hx e h1
  exact ⟨e', h3, by omega⟩
end
end Kx
namespace Kx
open PySem PySem.Spec L2 Da
section
variable {n : Nat} {N : List (List Int)}
theorem mem_lanes (h : Near n N) {a b : Int} : (a, b) ∈ lanesOf n N ↔ Nd n a ∧ b ∈ nb N a := by
  unfold lanesOf
  rw [List.mem_flatMap]
  constructor
  · rintro ⟨x, hx, hm⟩
    obtain ⟨y, hy, e⟩ := List.mem_map.mp hm
    cases e
    exact ⟨mem_upto.mp hx, hy⟩
  · rintro ⟨h1, h2⟩
    exact ⟨a, mem_upto.mpr h1, List.mem_map.mpr ⟨b, h2, rfl⟩⟩
end
end Kx
namespace Kx
open PySem PySem.Spec L2 Da
structure Lk (n : Nat) (L : List (Int × Int)) : Prop where
  lk : ∀ p ∈ L, 0 ≤ p.1 ∧ p.1 < p.2 ∧ p.2 < n
  nd : L.Nodup
  con : ∀ S : Int → Prop, S 0 → (∀ p ∈ L, S p.1 ↔ S p.2) → ∀ k, Nd n k → S k
theorem leP_tr (a b c : Int × Int) (h1 : leP a b = true) (h2 : leP b c = true) : leP a c = true := by
  unfold leP at *
  have h1 := of_decide_eq_true h1
  have h2 := of_decide_eq_true h2
  refine decide_eq_true ?_
  omega
theorem leP_tot (a b : Int × Int) : (leP a b || leP b a) = true := by
  unfold leP
  rw [Bool.or_eq_true, decide_eq_true_iff, decide_eq_true_iff]
  omega
theorem Lk.net0 {n : Nat} {L : List (Int × Int)} (h : Lk n L) (h0 : 0 < n) (h1 : n ≤ 24) (hl : L.length < 64) : Net0 n (L.mergeSort leP) :=
  ⟨h0, h1, by rw [List.length_mergeSort]; exact hl, fun p hp => h.lk p (List.mem_mergeSort.mp hp), (List.mergeSort_perm L leP).nodup_iff.mpr h.nd, List.pairwise_mergeSort leP_tr leP_tot L, fun S s0 hS k hk => h.con S s0 (fun p hp => hS p (List.mem_mergeSort.mpr hp)) k hk⟩
theorem nd_snoc {α : Type} {L : List α} {x : α} (h : L.Nodup) (m : x ∉ L) : (L ++ [x]).Nodup := by
  rw [List.nodup_append]
  exact ⟨h, by simp, fun a ha b hb e => m (by rw [← List.mem_singleton.mp hb, ← e]; exact ha)⟩
theorem Lk.more {n : Nat} {L : List (Int × Int)} (h : Lk n L) {a b : Int} (ha : Nd n a) (hb : Nd n b) (ne : a ≠ b) (nm : ((if b < a then b else a), (if b > a then b else a)) ∉ L) : Lk n (L ++ [((if b < a then b else a), (if b > a then b else a))]) := by
  refine ⟨fun p hp => ?_, nd_snoc h.nd nm, fun S s0 hS => h.con S s0 fun p hp => hS p (List.mem_append_left _ hp)⟩
  rcases List.mem_append.mp hp with z | z
  · exact h.lk p z
  · rw [List.mem_singleton.mp z]
    have := ha.1
    have := ha.2
    have := hb.1
    have := hb.2
    dsimp only
    split <;> split <;> omega
theorem ixR_ge {row : List Int} {z : Int} (h0 : 0 ≤ z) (h : z < row.length) : ixR row z = .ok (row.getD z.toNat 0) := ixR_of h0 (getD_some (by omega))
theorem extra {n : Nat} {row : List Int} {m : Nat} {c1 c2 c3 : Int} {L0 : List (Int × Int)} (hn : 0 < n) (hm : m ≤ 10) (h1 : 0 ≤ c1 ∧ c1 + 3 * m ≤ row.length + 2) (h2 : 0 ≤ c2 ∧ c2 + 3 * m ≤ row.length + 2) (h3 : 0 ≤ c3 ∧ c3 + 3 * m ≤ row.length + 2) (hL : Lk n L0) (hf : L0.length ≤ 30) : Tr (forR (σ := (List (Int × Int))) (fun x29 x30 => ((((((mulR 3 x30).bind fun x31 => (Res.ok (c2 + x31))).bind fun x32 => (ixR row x32)).bind fun x33 => (Res.ok x33)).bind fun x34 => (modR x34 (n : Int))).bind fun x35 =>
  ((((((mulR 3 x30).bind fun x36 => (Res.ok (c3 + x36))).bind fun x37 => (ixR row x37)).bind fun x38 => (Res.ok x38)).bind fun x39 => (modR x39 (n : Int))).bind fun x40 =>
  (((((((mulR 3 x30).bind fun x53 => (Res.ok (c1 + x53))).bind fun x54 => (ixR row x54)).bind fun x55 => (Res.ok (decide (0 < x55)))).bind fun x56 => (if x56 = true then (Res.ok ((!decide (x35 = x40)) && (!hasB ((if x40 < x35 then x40 else x35), (if x40 > x35 then x40 else x35)) x29))) else Res.ok false)).bind fun x58 => if x58 = true then ((appR x29 ((if x40 < x35 then x40 else x35), (if x40 > x35 then x40 else x35))).bind fun x57 =>
  Res.ok x57) else
  Res.ok x29).bind fun x59 =>
  Res.ok x59)))) (upto m) L0) fun L => Lk n L ∧ L.length ≤ 40 := by
  refine tr_forRn (fun i L => Lk n L ∧ L.length ≤ 30 + i) ⟨hL, by omega⟩ ?_ fun L h => ⟨h.1, by omega⟩
  rintro i L hi ⟨k1, k2⟩
  rw [mulR_64 (by decide) (by omega)]
  dsimp only [Res.bind_ok]
  rw [ixR_ge (by omega) (by omega), ixR_ge (by omega) (by omega), ixR_ge (by omega) (by omega)]
  dsimp only [Res.bind_ok]
  generalize row.getD (c1 + 3 * (i : Int)).toNat 0 = w
  generalize row.getD (c2 + 3 * (i : Int)).toNat 0 = a
  generalize row.getD (c3 + 3 * (i : Int)).toNat 0 = b
  rw [modR_pos (by omega), modR_pos (by omega)]
  dsimp only [Res.bind_ok]
  have ha : Nd n (a % (n : Int)) := ⟨Int.emod_nonneg _ (by omega), Int.emod_lt_of_pos _ (by omega)⟩
  have hb : Nd n (b % (n : Int)) := ⟨Int.emod_nonneg _ (by omega), Int.emod_lt_of_pos _ (by omega)⟩
  generalize a % (n : Int) = a at ha
  generalize b % (n : Int) = b at hb
  refine Tr.bind (Q := fun L => Lk n L ∧ L.length ≤ 30 + (i + 1)) ?_ fun L h => Tr.ok h
  by_cases c : 0 < w
  · rw [decide_eq_true c]
    refine Tr.st rfl ?_
    refine Tr.ite (fun e => ?_) fun e => Tr.ok ⟨k1, by omega⟩
    rw [Bool.and_eq_true] at e
    have ne : a ≠ b := by have := e.1; simpa using this
    have nm : ((if b < a then b else a), (if b > a then b else a)) ∉ L := fun m => by
      have := e.2
      rw [hasB_iff.mpr m] at this
      cases this
    rw [appR_ok (by omega)]
    exact Tr.ok ⟨k1.more ha hb ne nm, by rw [List.length_append]; simp; omega⟩
  · rw [decide_eq_false c]
    exact Tr.st rfl (Tr.itF rfl (Tr.ok ⟨k1, by omega⟩))
theorem tr_lcX {α β σ : Type} {f : σ → α → Res (β × σ)} {xs : List α} {s : σ} {Q : List β × σ → Prop} (P : Nat → List β → σ → Prop) (h0 : P 0 [] s) (hz : xs.length ≤ 1000000) (hs : ∀ i x ys s, xs[i]? = some x → P i ys s → Tr (f s x) fun v => P (i + 1) (ys ++ [v.1]) v.2) (hd : ∀ ys s, P xs.length ys s → Q (ys, s)) : Tr (lcXR xs s f) Q := by
  have key : ∀ (zs : List α) (i : Nat) (ys : List β) (s : σ), P i ys s → (∀ j x, zs[j]? = some x → xs[i + j]? = some x) → Tr (lcXR.go f s zs) fun w => P (i + zs.length) (ys ++ w.1) w.2 := by
    intro zs
    induction zs with
    | nil => intro i ys s h _; exact Tr.ok (by simpa using h)
    | cons z zs ih =>
      intro i ys s h hx
      show Tr ((nx (f s z)).bind fun v => (lcXR.go f v.2 zs).bind fun w => Res.ok (v.1 :: w.1, w.2)) _
      refine Tr.bind (Tr.nx (hs i z ys s (hx 0 z rfl) h)) fun v hv => ?_
      refine Tr.bind (ih (i + 1) (ys ++ [v.1]) v.2 hv fun j x e => by rw [show i + 1 + j = i + (j + 1) by omega]; exact hx (j + 1) x e) fun w hw => Tr.ok ?_
      rw [List.append_assoc] at hw
      rw [List.length_cons, show i + (zs.length + 1) = i + 1 + zs.length by omega]
      exact hw
  unfold lcXR
  rw [if_pos (szOk_yes hz)]
  refine Tr.imp (key xs 0 [] s h0 fun j x e => by rw [Nat.zero_add]; exact e) fun w hw => ?_
  rw [Nat.zero_add, List.nil_append] at hw
  exact hd w.1 w.2 hw
theorem net_tail {row A : List Int} {n : Nat} (hl : 19 ≤ row.length) (hA : A.Perm (upto n)) (n1 : 1 ≤ n) (n2 : n ≤ 7) : Tr ((((rng2R 1 (n : Int)).bind fun x27 => (forR (σ := (List (Int × Int))) (fun x15 x16 => (((((ixR row x16).bind fun x17 => (Res.ok x17)).bind fun x18 => (modR x18 x16)).bind fun x19 => (ixR A x19)).bind fun x20 =>
  (((((ixR A x16).bind fun x21 => (Res.ok (if x21 < x20 then x21 else x20))).bind fun x23 => (((ixR A x16).bind fun x22 => (Res.ok (if x22 > x20 then x22 else x20))).bind fun x24 => (Res.ok (x23, x24)))).bind fun x25 => appR x15 x25).bind fun x26 =>
  Res.ok x26))) x27 [])).bind fun x28 =>
  (((rngR 4).bind fun x60 => (forR (σ := (List (Int × Int))) (fun x29 x30 => ((((((mulR 3 x30).bind fun x31 => (Res.ok (8 + x31))).bind fun x32 => (ixR row x32)).bind fun x33 => (Res.ok x33)).bind fun x34 => (modR x34 (n : Int))).bind fun x35 =>
  ((((((mulR 3 x30).bind fun x36 => (Res.ok (9 + x36))).bind fun x37 => (ixR row x37)).bind fun x38 => (Res.ok x38)).bind fun x39 => (modR x39 (n : Int))).bind fun x40 =>
  (((((((mulR 3 x30).bind fun x53 => (Res.ok (7 + x53))).bind fun x54 => (ixR row x54)).bind fun x55 => (Res.ok (decide (0 < x55)))).bind fun x56 => (if x56 = true then (Res.ok ((!decide (x35 = x40)) && (!hasB ((if x40 < x35 then x40 else x35), (if x40 > x35 then x40 else x35)) x29))) else Res.ok false)).bind fun x58 => if x58 = true then ((appR x29 ((if x40 < x35 then x40 else x35), (if x40 > x35 then x40 else x35))).bind fun x57 =>
  Res.ok x57) else
  Res.ok x29).bind fun x59 =>
  Res.ok x59)))) x60 x28)).bind fun x61 =>
  (Res.ok ((n : Int), (x61.mergeSort leP)))))) fun w => w.1 = (n : Int) ∧ Net0 n w.2 := by
  have hAl : A.length = n := by rw [hA.length_eq, upto_length]
  have hAn : A.Nodup := hA.nodup_iff.mpr upto_nodup
  have hAm : ∀ x, x ∈ A ↔ Nd n x := fun x => by rw [hA.mem_iff, mem_upto]; rfl
  have at_ : ∀ j, j < n → ixR A (j : Int) = .ok (A.getD j 0) := fun j hj => ixR_nat (getD_some (by omega))
  have mem_ : ∀ j, j < n → A.getD j 0 ∈ A := fun j hj => List.mem_of_getElem? (getD_some (d := 0) (by omega))
  have inj_ : ∀ j k, j < n → k < n → A.getD j 0 = A.getD k 0 → j = k := fun j k hj hk e => by
    have pw := List.pairwise_iff_getElem.mp hAn
    have g : ∀ m (h : m < A.length), A.getD m 0 = A[m] := fun m h => by rw [List.getD_eq_getElem?_getD, List.getElem?_eq_getElem h]; rfl
    rw [g j (by omega), g k (by omega)] at e
    rcases Nat.lt_trichotomy j k with h | h | h
    · exact absurd e (pw j k _ _ h)
    · exact h
    · exact absurd e.symm (pw k j _ _ h)
  refine Tr.bind (Q := fun L => Lk n L ∧ L.length ≤ 30) (bind_eq (rng2R_ok (by omega) (by omega) (by omega) (by omega)) ?_) ?_
  · refine tr_forR (fun i L => L.length = i ∧ (∀ p ∈ L, 0 ≤ p.1 ∧ p.1 < p.2 ∧ p.2 < n) ∧ L.Nodup ∧ (∀ p ∈ L, (∃ j, j < i + 1 ∧ p.1 = A.getD j 0) ∧ ∃ j, j < i + 1 ∧ p.2 = A.getD j 0) ∧ ∀ S : Int → Prop, (∀ p ∈ L, S p.1 ↔ S p.2) → ∀ j, j < i + 1 → (S (A.getD 0 0) ↔ S (A.getD j 0))) ⟨rfl, fun p hp => (by cases hp), by simp, fun p hp => (by cases hp), fun S _ j hj => by rw [show j = 0 by omega]⟩ ?_ ?_
    · rintro i x L ex ⟨l1, l2, l3, l4, l5⟩
      obtain ⟨rfl, hi⟩ := rngI_get ex
      rw [ixR_ge (by omega) (by omega)]
      dsimp only [Res.bind_ok]
      generalize row.getD (1 + (i : Int)).toNat 0 = a
      rw [modR_pos (by omega)]
      dsimp only [Res.bind_ok]
      have a0 := Int.emod_nonneg a (show (1 + (i : Int)) ≠ 0 by omega)
      have a1 := Int.emod_lt_of_pos a (show (0 : Int) < 1 + (i : Int) by omega)
      generalize a % (1 + (i : Int)) = a at a0 a1
      obtain ⟨j, rfl⟩ : ∃ j : Nat, a = (j : Int) := ⟨a.toNat, by omega⟩
      rw [at_ j (by omega), show 1 + (i : Int) = ((i + 1 : Nat) : Int) by omega, at_ (i + 1) (by omega)]
      dsimp only [Res.bind_ok]
      have ne : A.getD j 0 ≠ A.getD (i + 1) 0 := fun e => by have := inj_ j (i + 1) (by omega) (by omega) e; omega
      have ha := (hAm _).mp (mem_ j (by omega))
      have hb := (hAm _).mp (mem_ (i + 1) (by omega))
      have old : ∀ p ∈ L, p.1 ≠ A.getD (i + 1) 0 ∧ p.2 ≠ A.getD (i + 1) 0 := fun p hp => by
        obtain ⟨⟨j1, q1, e1⟩, j2, q2, e2⟩ := l4 p hp
        exact ⟨fun e => by have := inj_ j1 (i + 1) (by omega) (by omega) (e1.symm.trans e); omega, fun e => by have := inj_ j2 (i + 1) (by omega) (by omega) (e2.symm.trans e); omega⟩
      have own : ∀ S : Int → Prop, (S (if A.getD (i + 1) 0 < A.getD j 0 then A.getD (i + 1) 0 else A.getD j 0) ↔ S (if A.getD (i + 1) 0 > A.getD j 0 then A.getD (i + 1) 0 else A.getD j 0)) → (S (A.getD j 0) ↔ S (A.getD (i + 1) 0)) := fun S h => by
        by_cases c : A.getD (i + 1) 0 < A.getD j 0
        · rw [if_pos c, if_neg (by omega)] at h; exact h.symm
        · rw [if_neg c, if_pos (by omega)] at h; exact h
      have any : ∀ (P : Int → Prop), P (A.getD j 0) → P (A.getD (i + 1) 0) → P (if A.getD (i + 1) 0 < A.getD j 0 then A.getD (i + 1) 0 else A.getD j 0) ∧ P (if A.getD (i + 1) 0 > A.getD j 0 then A.getD (i + 1) 0 else A.getD j 0) := fun P h1 h2 => by
        constructor <;> split <;> assumption
      have lkn : 0 ≤ (if A.getD (i + 1) 0 < A.getD j 0 then A.getD (i + 1) 0 else A.getD j 0) ∧ (if A.getD (i + 1) 0 < A.getD j 0 then A.getD (i + 1) 0 else A.getD j 0) < (if A.getD (i + 1) 0 > A.getD j 0 then A.getD (i + 1) 0 else A.getD j 0) ∧ (if A.getD (i + 1) 0 > A.getD j 0 then A.getD (i + 1) 0 else A.getD j 0) < n := by
        have := ha.1
        have := ha.2
        have := hb.1
        have := hb.2
        split <;> split <;> omega
      have nm : ((if A.getD (i + 1) 0 < A.getD j 0 then A.getD (i + 1) 0 else A.getD j 0), (if A.getD (i + 1) 0 > A.getD j 0 then A.getD (i + 1) 0 else A.getD j 0)) ∉ L := fun m => by
        have := old _ m
        dsimp only at this
        by_cases c : A.getD (i + 1) 0 < A.getD j 0
        · rw [if_pos c] at this; exact this.1 rfl
        · rw [if_neg c, if_pos (show A.getD (i + 1) 0 > A.getD j 0 by omega)] at this; exact this.2 rfl
      rw [appR_ok (by omega)]
      refine Tr.ok ⟨by rw [List.length_append, l1]; rfl, fun p hp => ?_, nd_snoc l3 nm, fun p hp => ?_, fun S hS k hk => ?_⟩
      · rcases List.mem_append.mp hp with y | y
        · exact l2 p y
        · rw [List.mem_singleton.mp y]; exact lkn
      · rcases List.mem_append.mp hp with y | y
        · obtain ⟨⟨j1, q1, e1⟩, j2, q2, e2⟩ := l4 p y
          exact ⟨⟨j1, by omega, e1⟩, j2, by omega, e2⟩
        · rw [List.mem_singleton.mp y]
          exact any (fun v => ∃ j, j < i + 1 + 1 ∧ v = A.getD j 0) ⟨j, by omega, rfl⟩ ⟨i + 1, by omega, rfl⟩
      · have h5 := l5 S fun p hp => hS p (List.mem_append_left _ hp)
        by_cases e : k = i + 1
        · subst e
          exact (h5 j (by omega)).trans (own S (hS _ (List.mem_append_right _ (List.mem_singleton.mpr rfl))))
        · exact h5 k (by omega)
    · rintro L ⟨l1, l2, l3, l4, l5⟩
      rw [rngI_length] at l1 l5
      refine ⟨⟨l2, l3, fun S s0 hS k hk => ?_⟩, by omega⟩
      have h5 := l5 S hS
      have get : ∀ x, Nd n x → ∃ j, j < n ∧ x = A.getD j 0 := fun x hx => by
        obtain ⟨j, hj, e⟩ := mem_getD (d := 0) ((hAm x).mpr hx)
        exact ⟨j, by omega, e⟩
      obtain ⟨j0, q0, e0⟩ := get 0 ⟨by omega, by omega⟩
      obtain ⟨j, q, e⟩ := get k hk
      rw [e]
      refine (h5 j (by omega)).mp ((h5 j0 (by omega)).mpr ?_)
      rw [← e0]
      exact s0
  · rintro L ⟨g1, g2⟩
    refine Tr.bind (Q := fun L => Lk n L ∧ L.length ≤ 40) (bind_eq (rngR_nat (n := 4) (by omega)) (extra (m := 4) (by omega) (by omega) (by omega) (by omega) (by omega) g1 g2)) ?_
    rintro L ⟨g3, g4⟩
    exact Tr.ok ⟨rfl, g3.net0 (by omega) (by omega) (by omega)⟩
end Kx
namespace Kx
open PySem PySem.Spec L2 Da
theorem net_of {row : List Int} {u : Int} (hl : 19 ≤ row.length) (h0 : 0 ≤ row.getD 0 0 ∧ row.getD 0 0 < 8) (hu : 1 ≤ u) : Tr (N_law_net_li_i row u) fun w => ∃ n : Nat, w.1 = n ∧ n ≤ 7 ∧ (n : Int) ≤ u ∧ Net0 n w.2 := by
  unfold N_law_net_li_i
  have e0 : ixR row 0 = .ok (row.getD 0 0) := ixR_nat (i := 0) (getD_some (by omega))
  generalize row.getD 0 0 = z at e0 h0
  rw [e0]
  dsimp only [Res.bind_ok]
  have tab : ∃ s : Nat, ixR [3, 4, 5, 6, 7, 2, 4, 1] z = .ok (s : Int) ∧ 1 ≤ s ∧ s ≤ 7 := by
    rcases (show z = 0 ∨ z = 1 ∨ z = 2 ∨ z = 3 ∨ z = 4 ∨ z = 5 ∨ z = 6 ∨ z = 7 by omega) with rfl | rfl | rfl | rfl | rfl | rfl | rfl | rfl
    · exact ⟨3, rfl, by decide⟩
    · exact ⟨4, rfl, by decide⟩
    · exact ⟨5, rfl, by decide⟩
    · exact ⟨6, rfl, by decide⟩
    · exact ⟨7, rfl, by decide⟩
    · exact ⟨2, rfl, by decide⟩
    · exact ⟨4, rfl, by decide⟩
    · exact ⟨1, rfl, by decide⟩
  obtain ⟨s, es, s1, s2⟩ := tab
  rw [es]
  dsimp only [Res.bind_ok]
  obtain ⟨n, hn, n1, n2, n3⟩ : ∃ n : Nat, (if (s : Int) < u then (s : Int) else u) = (n : Int) ∧ 1 ≤ n ∧ n ≤ 7 ∧ (n : Int) ≤ u := by
    refine ⟨(if (s : Int) < u then (s : Int) else u).toNat, ?_, ?_, ?_, ?_⟩ <;> split <;> omega
  rw [hn]
  refine bind_eq (v := upto n) ?_ ?_
  · rw [rngR_nat (by omega)]
    exact (lcR_map (g := fun x => x) (by rw [upto_length]; omega) fun x _ => rfl).trans (by rw [List.map_id'])
  refine Tr.bind (Q := fun w : List Int × List Int => w.1.Perm (upto n)) (bind_eq (rngR_nat (by omega)) ?_) ?_
  · refine tr_lcX (fun i ys s => (ys ++ s).Perm (upto n) ∧ ys.length = i) ⟨List.Perm.refl _, rfl⟩ (by rw [upto_length]; omega) ?_ ?_
    · rintro i x ys s ex ⟨hp, hy⟩
      obtain ⟨rfl, hi⟩ := upto_get ex
      have hL := hp.length_eq
      rw [List.length_append, upto_length] at hL
      rw [ixR_ge (by omega) (by omega)]
      dsimp only [Res.bind_ok]
      generalize row.getD ((i : Int)).toNat 0 = a
      have hd : ∃ b, divR a (if (i : Int) > 1 then (i : Int) else 1) = .ok b := by
        refine ⟨_, divR_64 ?_ ?_⟩ <;> split <;> omega
      obtain ⟨b, eb⟩ := hd
      rw [eb]
      dsimp only [Res.bind_ok]
      rw [modR_pos (by omega)]
      dsimp only [Res.bind_ok, nx_ok]
      have b0 := Int.emod_nonneg b (show (s.length : Int) ≠ 0 by omega)
      have b1 := Int.emod_lt_of_pos b (show (0 : Int) < (s.length : Int) by omega)
      generalize b % (s.length : Int) = c at b0 b1
      rw [popR_of b0 b1 (by omega)]
      refine Tr.ok ⟨?_, by rw [List.length_append, hy]; rfl⟩
      rw [List.append_assoc]
      exact (List.Perm.append_left ys (take_out' (by omega))).trans hp
    · rintro ys s ⟨hp, hy⟩
      have hL := hp.length_eq
      rw [List.length_append, upto_length] at hL
      rw [upto_length] at hy
      have : s = [] := List.eq_nil_of_length_eq_zero (by omega)
      rw [this, List.append_nil] at hp
      exact hp
  rintro ⟨A, lf⟩ hA
  dsimp only at hA ⊢
  exact Tr.imp (net_tail hl hA (by omega) (by omega)) fun w hw => ⟨n, hw.1, by omega, n3, hw.2⟩
end Kx
namespace Kx
open PySem PySem.Spec L2 Da
theorem digs_at {sizes row : List Int} (h : Digs sizes row) {i : Nat} {s : Int} (hs : sizes[i]? = some s) : 0 ≤ row.getD i 0 ∧ row.getD i 0 < s := by
  obtain ⟨r, e, h0, h1⟩ := h.get hs
  rw [List.getD_eq_getElem?_getD, e]
  exact ⟨h0, h1⟩
theorem mem_lanesR {r : List Int} {a b : Int} : (a, b) ∈ lanesR r ↔ ∃ k : Nat, k + 1 < r.length ∧ r.getD k 0 = a ∧ r.getD (k + 1) 0 = b := by
  unfold lanesR
  rw [List.mem_map]
  constructor
  · rintro ⟨k, hk, e⟩
    have := List.mem_range.mp hk
    cases e
    exact ⟨k, by omega, rfl, rfl⟩
  · rintro ⟨k, hk, e1, e2⟩
    exact ⟨k, List.mem_range.mpr (by omega), by rw [e1, e2]⟩
section
variable {n : Nat} {N : List (List Int)} {R : List (List (List Int))}
theorem Rows.mem (h : Rows n N R) {row : List (List Int)} (hr : row ∈ R) : row.length = n ∧ ∀ r ∈ row, r ≠ [] ∧ r.length ≤ n := by
  obtain ⟨u, hu, rfl⟩ := mem_getD (d := []) hr
  rw [h.len] at hu
  refine ⟨h.row u hu, fun r hr => ?_⟩
  obtain ⟨v, hv, rfl⟩ := mem_getD (d := []) hr
  rw [h.row u hu] at hv
  have := h.rt u v hu hv
  exact ⟨this.ne, this.len⟩
end
end Kx
namespace Kx
open PySem PySem.Spec L2 Da
/-- does the route pass the place -/
def psB (r pl : List Int) : Bool := match pl with
  | [a] => decide (a ∈ r)
  | [a, b] => decide ((a, b) ∈ lanesR r)
  | _ => false
/-- a place: a node or a lane -/
def Plc (pl : List Int) : Prop := (∃ a, pl = [a]) ∨ ∃ a b, pl = [a, b]
theorem Plc.len {pl : List Int} (h : Plc pl) : pl.length ≤ 2 := by rcases h with ⟨a, rfl⟩ | ⟨a, b, rfl⟩ <;> simp
theorem frozen_li {r : List Int} (h : r.length ≤ 1000000) : N_frozen_li r = .ok r := by
  unfold N_frozen_li
  simp only [Res.bind_ret]
  exact (lcR_map (g := fun x => x) h fun x _ => rfl).trans (by rw [List.map_id'])
theorem pairs_has {a b : Int} {r : List Int} : hasB [a, b] ((lanesR r).map fun x : Int × Int => [x.1, x.2]) = decide ((a, b) ∈ lanesR r) := by
  by_cases h : (a, b) ∈ lanesR r
  · rw [decide_eq_true h]
    exact hasB_iff.mpr (List.mem_map.mpr ⟨(a, b), h, rfl⟩)
  · rw [decide_eq_false h]
    refine Bool.eq_false_iff.mpr fun e => h ?_
    obtain ⟨p, hp, e⟩ := List.mem_map.mp (hasB_iff.mp e)
    injection e with e1 e2
    injection e2 with e2
    rw [← e1, ← e2]
    exact hp
theorem ps_tail {r pl : List Int} (h : Plc pl) (h0 : r ≠ []) (hz : r.length ≤ 1000000) : (if (decide ((pl.length : Int) = 1)) = true then ((ixR pl 0).bind fun x2 => (Res.ok (decide (x2 ∈ r)))) else
  (((N_route_lanes_ti r).bind fun x3 => Res.ok ((List.map (fun x : (Int × Int) => [x.1, x.2])) x3)).bind fun x4 => (Res.ok (hasB pl x4)))) = .ok (psB r pl) := by
  rcases h with ⟨a, rfl⟩ | ⟨a, b, rfl⟩
  · rw [if_pos (by simp)]
    rfl
  · rw [if_neg (by simp), route_lanes h0 hz]
    dsimp only [Res.bind_ok]
    rw [pairs_has]
    rfl
theorem passes_t {r pl : List Int} (h : Plc pl) (h0 : r ≠ []) (hz : r.length ≤ 1000000) : N_passes_ti_ti r pl = .ok (psB r pl) := by
  unfold N_passes_ti_ti
  rw [frozen_t pl (by have := h.len; omega)]
  exact ps_tail h h0 hz
theorem law_passes {r pl : List Int} (h : Plc pl) (h0 : r ≠ []) (hz : r.length ≤ 1000000) : N_law_passes_ti_ti r pl = .ok (psB r pl) := by
  have hl : 0 < r.length := List.length_pos_iff.mpr h0
  unfold N_law_passes_ti_ti
  rcases h with ⟨a, rfl⟩ | ⟨a, b, rfl⟩
  · rw [if_pos (by simp)]
    rfl
  · rw [if_neg (by simp), show (r.length : Int) - 1 = ((r.length - 1 : Nat) : Int) by omega, rngR_nat (by omega)]
    dsimp only [Res.bind_ok]
    refine Tr.eq (tr_find (fun x => ¬ (r.getD x.toNat 0 = a ∧ r.getD (x.toNat + 1) 0 = b)) (fun c => c = true ∧ (a, b) ∈ lanesR r) (fun x hx => ?_) (fun p => Tr.ok ?_) fun c hc => ?_)
    · obtain ⟨k, rfl, hk⟩ := Nd.nat (mem_upto.mp hx)
      rw [ixR_nat (getD_some (d := 0) (show k < r.length by omega)), show (k : Int) + 1 = ((k + 1 : Nat) : Int) by omega, ixR_nat (getD_some (d := 0) (show k + 1 < r.length by omega)), Int.toNat_natCast, show ixR [a, b] 0 = .ok a from rfl, show ixR [a, b] 1 = .ok b from rfl]
      dsimp only [Res.bind_ok]
      by_cases c1 : r.getD k 0 = a
      · rw [decide_eq_true c1]
        refine Tr.st rfl ?_
        by_cases c2 : r.getD (k + 1) 0 = b
        · rw [decide_eq_true c2]
          exact Tr.itT rfl (Tr.ok (.inr ⟨true, rfl, rfl, mem_lanesR.mpr ⟨k, by omega, c1, c2⟩⟩))
        · rw [decide_eq_false c2]
          exact Tr.itF rfl (Tr.ok (.inl ⟨rfl, fun h => c2 h.2⟩))
      · rw [decide_eq_false c1]
        exact Tr.st rfl (Tr.itF rfl (Tr.ok (.inl ⟨rfl, fun h => c1 h.1⟩)))
    · refine (decide_eq_false fun m => ?_).symm
      obtain ⟨k, hk, e1, e2⟩ := mem_lanesR.mp m
      refine p k (mem_upto.mpr ⟨by omega, by omega⟩) ?_
      rw [Int.toNat_natCast]
      exact ⟨e1, e2⟩
    · rw [hc.1]
      exact (decide_eq_true hc.2).symm
def placesOf (n : Nat) (N : List (List Int)) : List (List Int) := ((upto n).map fun x : Int => [x]) ++ (lanesOf n N).map fun x : Int × Int => [x.1, x.2]
section
variable {n : Nat} {N : List (List Int)} {R : List (List (List Int))}
theorem places_len (h : Near n N) : (placesOf n N).length ≤ 30000 := by
  unfold placesOf
  rw [List.length_append, List.length_map, List.length_map, upto_length]
  have := lanes_len h
  have := h.le
  omega
theorem places_pos (h : Near n N) : 0 < (placesOf n N).length := by
  unfold placesOf
  rw [List.length_append, List.length_map, upto_length]
  have := h.pos
  omega
theorem mem_places (h : Near n N) {pl : List Int} : pl ∈ placesOf n N ↔ (∃ a, pl = [a] ∧ Nd n a) ∨ ∃ a b, pl = [a, b] ∧ Nd n a ∧ b ∈ nb N a := by
  unfold placesOf
  rw [List.mem_append, List.mem_map, List.mem_map]
  constructor
  · rintro (⟨a, ha, rfl⟩ | ⟨⟨a, b⟩, hp, rfl⟩)
    · exact .inl ⟨a, rfl, mem_upto.mp ha⟩
    · exact .inr ⟨a, b, rfl, (mem_lanes h).mp hp⟩
  · rintro (⟨a, rfl, ha⟩ | ⟨a, b, rfl, ha⟩)
    · exact .inl ⟨a, mem_upto.mpr ha, rfl⟩
    · exact .inr ⟨(a, b), (mem_lanes h).mpr ha, rfl⟩
theorem places_plc (h : Near n N) {pl : List Int} (hp : pl ∈ placesOf n N) : Plc pl := by
  rcases (mem_places h).mp hp with ⟨a, e, _⟩ | ⟨a, b, e, _⟩
  · exact .inl ⟨a, e⟩
  · exact .inr ⟨a, b, e⟩
theorem law_places (h : Near n N) : N_law_places_lli N = .ok (placesOf n N) := by
  have hn := h.le
  have hl := places_len h
  unfold N_law_places_lli
  rw [h.len, rngR_nat (by omega)]
  dsimp only [Res.bind_ok]
  rw [lcR_map (g := fun x => x) (by rw [upto_length]; omega) fun x _ => rfl, List.map_id']
  dsimp only [Res.bind_ok]
  rw [law_lanes h]
  dsimp only [Res.bind_ok]
  unfold placesOf at hl ⊢
  rw [List.length_append] at hl
  unfold catR
  rw [if_pos (szOk_yes (by omega))]
end
end Kx
namespace Kx
open PySem PySem.Spec L2 Da
variable {n : Nat} {N : List (List Int)} {L : List (Int × Int)} {u v : Int}
theorem nbrs_nd70 (h : Net0 n L) (a : Int) : (nbrs L a).Nodup := by
  unfold nbrs
  refine List.pairwise_flatMap.mpr ⟨fun p hp => ?_, h.nd.imp_of_mem fun {p q} hp hq hne x hx y hy e => hne ?_⟩
  · have := h.lk p hp
    by_cases h1 : p.1 = a <;> by_cases h2 : p.2 = a
    · omega
    · rw [if_pos h1, if_neg h2]; exact List.pairwise_singleton _ _
    · rw [if_neg h1, if_pos h2]; exact List.pairwise_singleton _ _
    · rw [if_neg h1, if_neg h2]; exact List.Pairwise.nil
  · have k1 := h.lk p hp
    have k2 := h.lk q hq
    have m : ∀ {p : Int × Int} {x : Int}, x ∈ (if p.1 = a then [p.2] else []) ++ (if p.2 = a then [p.1] else []) → (p.1 = a ∧ p.2 = x) ∨ (p.2 = a ∧ p.1 = x) := fun {p x} hx => by
      rcases List.mem_append.mp hx with z | z
      · split at z
        · rename_i c
          exact .inl ⟨c, (List.mem_singleton.mp z).symm⟩
        · cases z
      · split at z
        · rename_i c
          exact .inr ⟨c, (List.mem_singleton.mp z).symm⟩
        · cases z
    subst e
    rcases m hx with ⟨a1, a2⟩ | ⟨a1, a2⟩ <;> rcases m hy with ⟨b1, b2⟩ | ⟨b1, b2⟩
    · exact Prod.ext (by omega) (by omega)
    · omega
    · omega
    · exact Prod.ext (by omega) (by omega)
theorem nb_nd70 (h : Net0 n L) {a : Int} (ha : Nd n a) : (nb (nearOf n L) a).Nodup := by
  rw [nb_nearOf ha]
  exact (List.mergeSort_perm _ _).nodup_iff.mpr (nbrs_nd70 h a)
/-- a route's beginning -/
structure Pf (n : Nat) (N : List (List Int)) (u : Int) (w : List Int) : Prop where
  hd : w.head? = some u
  nd : w.Nodup
  rg : ∀ x ∈ w, Nd n x
  st : Stp N w
theorem Pf.ne {w : List Int} (h : Pf n N u w) : w ≠ [] := fun e => by have := h.hd; rw [e] at this; cases this
theorem Pf.len {w : List Int} (h : Pf n N u w) : w.length ≤ n := nodup_le h.nd h.rg
theorem Pf.rt {w : List Int} (h : Pf n N u w) (hl : w.getLast? = some v) : Rt n N u v w := ⟨h.hd, hl, h.nd, h.rg, h.st⟩
theorem Pf.snoc {w : List Int} {a b : Int} (h : Pf n N u w) (hl : w.getLast? = some a) (hb : b ∈ nb N a) (hn : b ∉ w) (hr : Nd n b) : Pf n N u (w ++ [b]) := by
  refine ⟨?_, ?_, fun x hx => ?_, h.st.snoc hl hb⟩
  · rw [List.head?_append, h.hd]; rfl
  · exact List.nodup_append.mpr ⟨h.nd, List.pairwise_singleton _ _, fun x hx y hy e => by
      rw [List.mem_singleton] at hy
      rw [← hy, ← e] at hn
      exact hn hx⟩
  · rcases List.mem_append.mp hx with z | z
    · exact h.rg x z
    · rw [List.mem_singleton] at z
      rw [z]; exact hr
/-- how many turns a beginning with k free nodes may cost -/
def cst : Nat → Nat
  | 0 => 1
  | k + 1 => 1 + (k + 1) * cst k
def mu (n : Nat) (W : List (List Int)) : Nat := (W.map fun w => cst (n - w.length)).sum
theorem mu_app {W V : List (List Int)} : mu n (W ++ V) = mu n W + mu n V := by unfold mu; rw [List.map_append, List.sum_append]
theorem mu_kids {w : List Int} : ∀ (bs : List Int), mu n (bs.map fun b => w ++ [b]) = bs.length * cst (n - (w.length + 1))
  | [] => by simp [mu]
  | b :: bs => by
    have := mu_kids (w := w) bs
    unfold mu at this ⊢
    rw [List.map_cons, List.map_cons, List.sum_cons, this, List.length_append, List.length_singleton, List.length_cons, Nat.add_mul, Nat.one_mul]
    omega
def Apart (a b : List Int) : Prop := ¬ a <+: b ∧ ¬ b <+: a
structure Dfs (n : Nat) (N : List (List Int)) (u v : Int) (R : List Int) (i : Nat) (s : List (List Int) × List (List Int)) : Prop where
  f : ∀ r ∈ s.1, Rt n N u v r
  w : ∀ r ∈ s.2, Pf n N u r
  ap : (s.1 ++ s.2).Pairwise Apart
  R : R ∈ s.1 ∨ ∃ w ∈ s.2, w <+: R
  cs : i + mu n s.2 ≤ cst (n - 1)
  fl : s.1.length ≤ i
theorem kids_ok {w : List Int} (hw : w.length < 1000) : ∀ (bs : List Int) (V : List (List Int)), V.length + bs.length ≤ 100000 → forR (σ := (List (List Int))) (fun x37 x38 => ((if (!decide (x38 ∈ w)) = true then (((catR w [x38]).bind fun x43 => appR x37 x43).bind fun x44 =>
  Res.ok x44) else
  Res.ok x37).bind fun x45 =>
  Res.ok x45)) bs V = .ok (V ++ (bs.filter fun b => !decide (b ∈ w)).map fun b => w ++ [b])
  | [], V, _ => by simp
  | b :: bs, V, h => by
    rw [List.length_cons] at h
    rw [forR_cons, List.filter_cons]
    by_cases c : b ∈ w
    · rw [if_neg (by simp [c]), if_neg (by simp [c])]
      exact kids_ok hw bs V (by omega)
    · rw [if_pos (by simp [c]), if_pos (by simp [c]), catR_ok (by simp; omega)]
      simp only [Res.bind_ok]
      rw [appR_ok (by omega)]
      simp only [Res.bind_ok]
      rw [kids_ok hw bs (V ++ [w ++ [b]]) (by rw [List.length_append, List.length_singleton]; omega), List.map_cons, List.append_assoc]
      rfl
theorem pre_snoc {x w : List Int} {b : Int} (h : x <+: w ++ [b]) : x <+: w ∨ x = w ++ [b] := by
  rcases List.prefix_concat_iff.mp h with z | z
  · exact .inr z
  · exact .inl z
theorem Dfs.small {R : List Int} {i : Nat} {s : List (List Int) × List (List Int)} (h : Dfs n N u v R i s) : s.2.length ≤ mu n s.2 := by
  have : ∀ W : List (List Int), W.length ≤ mu n W := fun W => by
    induction W with
    | nil => simp
    | cons w W ih =>
      have c1 : 1 ≤ cst (n - w.length) := by
        cases n - w.length with
        | zero => exact Nat.le_refl _
        | succ k => unfold cst; omega
      unfold mu at ih ⊢
      rw [List.map_cons, List.sum_cons, List.length_cons]
      omega
  exact this _
theorem cst_le : ∀ {k : Nat}, k ≤ 3 → cst k ≤ 16 := by
  intro k hk
  rcases (show k = 0 ∨ k = 1 ∨ k = 2 ∨ k = 3 by omega) with rfl | rfl | rfl | rfl <;> decide
def Ro (n : Nat) (N : List (List Int)) (u v : Int) (rs : List (List Int)) : Prop := rs ≠ [] ∧ rs.Nodup ∧ rs.length ≤ 16 ∧ ∀ r ∈ rs, Rt n N u v r
theorem sort_ro {rs : List (List Int)} (h : Ro n N u v rs) : sortTR rs = .ok (rs.mergeSort leT) ∧ Ro n N u v (rs.mergeSort leT) := by
  obtain ⟨h1, h2, h3, h4⟩ := h
  have pm := List.mergeSort_perm rs leT
  refine ⟨if_pos (List.all_eq_true.mpr fun r hr => ?_), fun e => h1 ?_, pm.nodup_iff.mpr h2, by rw [pm.length_eq]; exact h3, fun r hr => h4 r (pm.mem_iff.mp hr)⟩
  · have := (h4 r hr).ne
    cases r with
    | nil => exact absurd rfl this
    | cons _ _ => rfl
  · rw [e] at pm
    exact pm.symm.eq_nil
theorem pop0_snoc {α : Type} {W : List α} {w : α} : pop0R (W ++ [w]) = .ok (w, W) := by
  unfold pop0R
  rw [List.length_append, List.length_singleton, Nat.add_sub_cancel, List.getElem?_concat_length]
  simp
theorem apart_ne {a b : List Int} (h : Apart a b) : a ≠ b := fun e => h.1 (by rw [e]; exact List.prefix_refl _)
theorem pre_last {w R : List Int} (hp : w <+: R) (hw : w.getLast? = some v) (hR : Rt n N u v R) : w = R := by
  obtain ⟨t, rfl⟩ := hp
  cases t with
  | nil => rw [List.append_nil]
  | cons b t =>
    have h1 := hR.la
    rw [List.getLast?_append] at h1
    have h2 : (b :: t).getLast? = some v := by
      cases e : (b :: t).getLast? with
      | none => exact absurd (List.getLast?_eq_none_iff.mp e) (by simp)
      | some x => rw [e] at h1; exact h1
    have m1 := List.mem_of_getLast? hw
    have m2 := List.mem_of_getLast? h2
    exact absurd rfl ((List.nodup_append.mp hR.nd).2.2 v m1 v m2)
theorem pre_eq {a b : List Int} (h : a <+: b) (hl : a.length = b.length) : a = b := by
  obtain ⟨t, rfl⟩ := h
  rw [List.length_append] at hl
  have : t = [] := List.eq_nil_of_length_eq_zero (by omega)
  rw [this, List.append_nil]
theorem cst_pos {k : Nat} : 1 ≤ cst k := by
  cases k with
  | zero => exact Nat.le_refl _
  | succ k => unfold cst; omega
theorem all_routes (h : Net0 n L) (n4 : n ≤ 4) (hu : Nd n u) (hv : Nd n v) : Tr (N_law_all_routes_lli_i_i (nearOf n L) u v) fun rs => Ro n (nearOf n L) u v rs := by
  have hN := h.near
  have nbn : ∀ {a : Int}, Nd n a → (nb (nearOf n L) a).Nodup := fun ha => nb_nd70 h ha
  obtain ⟨R, _, hR⟩ := free_route hN (k := 0) hu hv
  generalize nearOf n L = N at *
  unfold N_law_all_routes_lli_i_i
  have e : rngR 100000 = .ok (upto 100000) := rngR_nat (n := 100000) (by omega)
  have c16 : cst (n - 1) ≤ 16 := cst_le (by omega)
  rw [e]
  simp only [Res.bind_ok]
  refine Tr.bind (Q := fun s : List (List Int) × List (List Int) => Ro n N u v s.1) (Tr.bind (Q := fun o => ∃ s : List (List Int) × List (List Int), o = .go s ∧ Ro n N u v s.1) (tr_forCn (fun i s => Dfs n N u v R i s) ?_ (fun i s hi P => ?_) fun s P => ?_) fun o ho => ?_) fun s hs => ⟨_, (sort_ro hs).1, (sort_ro hs).2⟩
  · refine ⟨fun r hr => (nomatch hr), fun r hr => ?_, List.pairwise_singleton _ _, .inr ⟨[u], by simp, ?_⟩, by simp [mu], Nat.le_refl _⟩
    · rw [List.mem_singleton] at hr
      subst hr
      exact ⟨rfl, List.pairwise_singleton _ _, fun x hx => by rw [List.mem_singleton] at hx; rw [hx]; exact hu, Stp.one⟩
    · have := hR.hd
      cases R with
      | nil => cases this
      | cons x t => cases this; exact ⟨t, rfl⟩
  · obtain ⟨F, S⟩ := s
    dsimp only
    by_cases hz : S = []
    · subst hz
      rw [if_pos (by simp)]
      refine Tr.ok ⟨_, rfl, ?_⟩
      have hr : R ∈ F := by
        rcases P.R with z | ⟨w, hw, _⟩
        · exact z
        · cases hw
      refine ⟨fun e => (by
        dsimp only at e
        rw [e] at hr
        cases hr), ((List.pairwise_append.mp P.ap).1).imp apart_ne, by have := P.fl; have := P.cs; dsimp only at *; omega, P.f⟩
    · obtain ⟨W, w, rfl⟩ : ∃ W w, S = W ++ [w] := ⟨S.dropLast, S.getLast hz, (List.dropLast_concat_getLast hz).symm⟩
      rw [if_neg (by simp; omega), pop0_snoc]
      simp only [nx_ok, Res.bind_ok]
      have hw := P.w w (by simp)
      obtain ⟨a, ha⟩ : ∃ a, w.getLast? = some a := by
        cases e : w.getLast? with
        | none => exact absurd (List.getLast?_eq_none_iff.mp e) hw.ne
        | some a => exact ⟨a, rfl⟩
      have wl := hw.len
      have w0 : 0 < w.length := List.length_pos_iff.mpr hw.ne
      have hcs := P.cs
      have hsm := P.small
      have hfl := P.fl
      dsimp only at hcs hsm hfl
      rw [mu_app] at hcs hsm
      have mw : mu n [w] = cst (n - w.length) := by simp [mu]
      rw [mw] at hcs hsm
      rw [List.length_append, List.length_singleton] at hsm
      have had : Nd n a := hw.rg a (List.mem_of_getLast? ha)
      have sym : ∀ {a b : List Int}, Apart a b → Apart b a := fun h => ⟨h.2, h.1⟩
      rw [ix_last ha (by omega)]
      simp only [Res.bind_ok]
      by_cases c : a = v
      · rw [if_pos (decide_eq_true c), appR_ok (by omega)]
        simp only [Res.bind_ok]
        have cp := cst_pos (k := n - w.length)
        refine Tr.ok ⟨fun r hr => ?_, fun r hr => P.w r (List.mem_append_left _ hr), ?_, ?_, by dsimp only; omega, by dsimp only; rw [List.length_append, List.length_singleton]; omega⟩
        · rcases List.mem_append.mp hr with z | z
          · exact P.f r z
          · rw [List.mem_singleton] at z
            rw [z]; exact hw.rt (by rw [ha, c])
        · refine (List.Perm.pairwise_iff (R := Apart) sym ?_).mp P.ap
          dsimp only
          rw [List.append_assoc]
          exact List.Perm.append_left F List.perm_append_comm
        · rcases P.R with z | ⟨x, hx, hp⟩
          · exact .inl (List.mem_append_left _ z)
          · rcases List.mem_append.mp hx with z | z
            · exact .inr ⟨x, z, hp⟩
            · rw [List.mem_singleton] at z
              rw [z] at hp
              exact .inl (List.mem_append_right _ (by rw [List.mem_singleton]; exact (pre_last hp (by rw [ha, c]) hR).symm))
      · rw [if_neg (by simpa using c), ix_nb hN.len had]
        have few := hN.few a
        simp only [Res.bind_ok]
        rw [kids_ok (by omega) (nb N a) W (by omega)]
        simp only [Res.bind_ok]
        have bnd : ((nb N a).filter fun b => !decide (b ∈ w)).Nodup := (nbn had).filter _
        have bmem : ∀ b ∈ (nb N a).filter (fun b => !decide (b ∈ w)), b ∈ nb N a ∧ b ∉ w := fun b hb => by
          obtain ⟨m, p⟩ := List.mem_filter.mp hb
          exact ⟨m, by simpa using p⟩
        have blen : ((nb N a).filter fun b => !decide (b ∈ w)).length ≤ n - w.length := by
          have := nodup_le (n := n) (r := w ++ (nb N a).filter fun b => !decide (b ∈ w)) (List.nodup_append.mpr ⟨hw.nd, bnd, fun x hx y hy e => (bmem y hy).2 (by rw [← e]; exact hx)⟩) fun x hx => by
            rcases List.mem_append.mp hx with z | z
            · exact hw.rg x z
            · exact (hN.rng a x had (bmem x z).1).1
          rw [List.length_append] at this
          omega
        refine Tr.ok ⟨P.f, fun r hr => ?_, ?_, ?_, ?_, by dsimp only; omega⟩
        · rcases List.mem_append.mp hr with z | z
          · exact P.w r (List.mem_append_left _ z)
          · obtain ⟨b, hb, rfl⟩ := List.mem_map.mp z
            exact hw.snoc ha (bmem b hb).1 (bmem b hb).2 (hN.rng a b had (bmem b hb).1).1
        · have ap := P.ap
          dsimp only at ap ⊢
          rw [← List.append_assoc] at ap ⊢
          obtain ⟨a1, _, a3⟩ := List.pairwise_append.mp ap
          have kp : (((nb N a).filter fun b => !decide (b ∈ w)).map fun b => w ++ [b]).Pairwise Apart := List.pairwise_map.mpr (bnd.imp fun {b b'} hne => ⟨fun hp => hne (List.cons.inj (List.append_cancel_left (pre_eq hp (by simp)))).1, fun hp => hne (List.cons.inj (List.append_cancel_left (pre_eq hp (by simp)))).1.symm⟩)
          refine List.pairwise_append.mpr ⟨a1, kp, fun x hx y hy => ?_⟩
          · obtain ⟨b, hb, rfl⟩ := List.mem_map.mp hy
            obtain ⟨k1, k2⟩ := a3 x hx w (by simp)
            refine ⟨fun hp => ?_, fun hp => k2 ((List.prefix_append w [b]).trans hp)⟩
            rcases pre_snoc hp with z | z
            · exact k1 z
            · exact k2 (by rw [z]; exact List.prefix_append w [b])
        · rcases P.R with z | ⟨x, hx, hp⟩
          · exact .inl z
          · rcases List.mem_append.mp hx with z | z
            · exact .inr ⟨x, List.mem_append_left _ z, hp⟩
            · rw [List.mem_singleton] at z
              subst z
              obtain ⟨t, e⟩ := hp
              cases t with
              | nil =>
                rw [List.append_nil] at e
                have := hR.la
                rw [← e, ha] at this
                exact absurd (Option.some.inj this) c
              | cons b t =>
                have hb : b ∈ nb N a := hR.st (x.length - 1) a b (by
                  rw [← e, List.getElem?_append_left (by omega), ← List.getLast?_eq_getElem?]
                  exact ha) (by
                  rw [← e, show x.length - 1 + 1 = x.length by omega, List.getElem?_append_right (by omega), Nat.sub_self]
                  rfl)
                have hnb : b ∉ x := fun m => by
                  have := hR.nd
                  rw [← e] at this
                  exact (List.nodup_append.mp this).2.2 b m b (by simp) rfl
                refine .inr ⟨x ++ [b], List.mem_append_right _ (List.mem_map.mpr ⟨b, List.mem_filter.mpr ⟨hb, by simpa using hnb⟩, rfl⟩), t, ?_⟩
                rw [← e, List.append_assoc]
                rfl
        · dsimp only
          rw [mu_app, mu_kids]
          cases hk : n - w.length with
          | zero =>
            rw [hk] at blen
            have : ((nb N a).filter fun b => !decide (b ∈ w)).length = 0 := by omega
            rw [this, Nat.zero_mul]
            have := cst_pos (k := n - w.length)
            omega
          | succ k =>
            rw [hk] at blen hcs
            rw [show n - (w.length + 1) = k by omega]
            have := Nat.mul_le_mul_right (cst k) blen
            have e1 : cst (k + 1) = 1 + (k + 1) * cst k := rfl
            rw [e1] at hcs
            generalize (k + 1) * cst k = X at *
            generalize ((nb N a).filter fun b => !decide (b ∈ w)).length * cst k = Y at *
            omega
  · have := P.cs
    omega
  · obtain ⟨s, rfl, hs⟩ := ho
    exact Tr.ok hs
end Kx
namespace Kx
open PySem PySem.Spec L2 Da
variable {n : Nat} {N : List (List Int)} {L : List (Int × Int)} {u v : Int}
abbrev Menus := List (List (List (List Int)))
def rsAt (M : Menus) (u v : Int) : List (List Int) := (M.getD u.toNat []).getD v.toNat []
structure Mn (n : Nat) (N : List (List Int)) (M : Menus) : Prop where
  len : M.length = n
  row : ∀ line ∈ M, line.length = n
  ro : ∀ a b : Nat, a < n → b < n → Ro n N (a : Int) (b : Int) ((M.getD a []).getD b [])
theorem Mn.at_ {M : Menus} (h : Mn n N M) (hu : Nd n u) (hv : Nd n v) : Ro n N u v (rsAt M u v) := by
  have := hu.1; have := hu.2; have := hv.1; have := hv.2
  have := h.ro u.toNat v.toNat (by omega) (by omega)
  rwa [show ((u.toNat : Nat) : Int) = u by omega, show ((v.toNat : Nat) : Int) = v by omega] at this
theorem getD_mem' {α : Type} {xs : List α} {i : Nat} {d : α} (h : i < xs.length) : xs.getD i d ∈ xs := by
  rw [List.getD_eq_getElem?_getD, List.getElem?_eq_getElem h]
  exact List.getElem_mem _
theorem Mn.ix {M : Menus} (h : Mn n N M) (hu : Nd n u) (hv : Nd n v) : ((ixR M u).bind fun x6 => ixR x6 v) = .ok (rsAt M u v) := by
  have := hu.1; have := hu.2
  rw [ixR_D [] hu.1 (by rw [h.len]; exact hu.2), Res.bind_ok, ixR_D [] hv.1 (by rw [h.row _ (getD_mem' (by rw [h.len]; omega))]; exact hv.2)]
  rfl
theorem Mn.mem {M : Menus} (h : Mn n N M) {line : List (List (List Int))} (hl : line ∈ M) {rs : List (List Int)} (hr : rs ∈ line) : ∃ u v : Int, Nd n u ∧ Nd n v ∧ Ro n N u v rs := by
  obtain ⟨i, hi⟩ := List.mem_iff_getElem?.mp hl
  obtain ⟨j, hj⟩ := List.mem_iff_getElem?.mp hr
  have il := (List.getElem?_eq_some_iff.mp hi).1
  have jl := (List.getElem?_eq_some_iff.mp hj).1
  rw [h.len] at il
  rw [h.row _ hl] at jl
  have := h.ro i j il jl
  rw [List.getD_eq_getElem?_getD (l := M), hi, Option.getD_some, List.getD_eq_getElem?_getD, hj] at this
  exact ⟨(i : Int), (j : Int), ⟨by omega, by omega⟩, ⟨by omega, by omega⟩, this⟩
theorem Mn.sorted {M : Menus} (h : Mn n N M) : Mn n N (M.map fun line => line.map fun rs => rs.mergeSort leT) ∧ ∀ u v, Nd n u → Nd n v → rsAt (M.map fun line => line.map fun rs => rs.mergeSort leT) u v = (rsAt M u v).mergeSort leT := by
  have key : ∀ a b : Nat, a < n → b < n → ((M.map fun line => line.map fun rs => rs.mergeSort leT).getD a []).getD b [] = ((M.getD a []).getD b []).mergeSort leT := fun a b ha hb => by
    have e1 : M[a]? = some (M.getD a []) := by rw [List.getD_eq_getElem?_getD, List.getElem?_eq_getElem (by rw [h.len]; exact ha)]; rfl
    have e2 : (M.getD a [])[b]? = some ((M.getD a []).getD b []) := by
      rw [List.getD_eq_getElem?_getD (l := M.getD a []), List.getElem?_eq_getElem (by rw [h.row _ (getD_mem' (by rw [h.len]; exact ha))]; exact hb)]
      rfl
    rw [List.getD_eq_getElem?_getD (l := M.map _), List.getElem?_map, e1]
    simp only [Option.map_some, Option.getD_some]
    rw [List.getD_eq_getElem?_getD (l := List.map _ _), List.getElem?_map, e2]
    rfl
  refine ⟨⟨by rw [List.length_map, h.len], fun line hl => ?_, fun a b ha hb => ?_⟩, fun u v hu hv => ?_⟩
  · obtain ⟨x, hx, rfl⟩ := List.mem_map.mp hl
    rw [List.length_map, h.row x hx]
  · rw [key a b ha hb]
    exact (sort_ro (h.ro a b ha hb)).2
  · have := hu.1; have := hu.2; have := hv.1; have := hv.2
    exact key u.toNat v.toNat (by omega) (by omega)
theorem cut_take {α : Type} {xs : List α} {k : Nat} : cutN xs none (some (k : Int)) = xs.take (min k xs.length) := by
  unfold cutN
  rw [HT.sIx_none, HT.sIx_nat, List.drop_zero, Nat.sub_zero]
theorem ro_sub {rs ys : List (List Int)} (h : Ro n N u v rs) (h1 : ys ≠ []) (h2 : ys.Nodup) (h3 : ∀ y ∈ ys, y ∈ rs) : Ro n N u v ys := by
  obtain ⟨_, _, a3, a4⟩ := h
  have := h2.length_le_of_subset h3
  exact ⟨h1, h2, by omega, fun r hr => a4 r (h3 r hr)⟩
theorem menu_ok (h : Net0 n L) (n4 : n ≤ 4) {row : List Int} (hr : row.length = 18) (hb : ∀ k : Nat, k < 18 → 0 ≤ row.getD k 0 ∧ row.getD k 0 < 100) {left : Int} (h0 : 0 ≤ left) (h9 : left ≤ 1000) : Tr (N_law_menu_lli_li_i (nearOf n L) row left) (Mn n (nearOf n L)) := by
  have hN := h.near
  have ar : ∀ {u v : Int}, Nd n u → Nd n v → Tr (N_law_all_routes_lli_i_i (nearOf n L) u v) fun rs => Ro n (nearOf n L) u v rs := fun hu hv => all_routes h n4 hu hv
  generalize nearOf n L = N at *
  have hx : ∀ k : Nat, k < 18 → ixR row (k : Int) = .ok (row.getD k 0) := fun k hk => by
    have := ixR_D (xs := row) (i := (k : Int)) 0 (by omega) (by omega)
    rwa [show (k : Int).toNat = k by omega] at this
  unfold N_law_menu_lli_li_i
  have e0 : ixR row 0 = .ok (row.getD 0 0) := hx 0 (by omega)
  rw [hN.len, rngR_nat (by omega), e0]
  simp only [Res.bind_ok]
  refine Tr.bind (Q := fun s : Menus × Int => Mn n N s.1) (tr_forRn (fun i s => s.1.length = i ∧ (∀ line ∈ s.1, line.length = n) ∧ (∀ a b : Nat, a < i → b < n → Ro n N a b ((s.1.getD a []).getD b [])) ∧ 0 ≤ s.2 ∧ s.2 ≤ 1000) ⟨rfl, fun _ hl => (nomatch hl), fun a b ha _ => (by omega), h0, h9⟩ (fun i s hi P => ?_) fun s P => ⟨P.1, P.2.1, P.2.2.1⟩) fun s hs => Tr.ok hs
  obtain ⟨M, lf⟩ := s
  obtain ⟨pl, pr, po, p0, p9⟩ := P
  dsimp only at pl pr po p0 p9 ⊢
  have hin : Nd n (i : Int) := ⟨by omega, by omega⟩
  refine Tr.bind (Q := fun z : Int × List (List (List Int)) => 0 ≤ z.1 ∧ z.1 ≤ 1000 ∧ z.2.length = n ∧ ∀ b : Nat, b < n → Ro n N (i : Int) (b : Int) (z.2.getD b [])) (tr_forRn (fun j z => 0 ≤ z.1 ∧ z.1 ≤ 1000 ∧ z.2.length = j ∧ ∀ b : Nat, b < j → Ro n N (i : Int) (b : Int) (z.2.getD b [])) ⟨p0, p9, rfl, fun b hb => (by omega)⟩ (fun j z hj P => ?_) fun z P => P) fun z hz => ?_
  · obtain ⟨lf, ln⟩ := z
    obtain ⟨q0, q9, ql, qo⟩ := P
    dsimp only at q0 q9 ql qo ⊢
    have hjn : Nd n (j : Int) := ⟨by omega, by omega⟩
    refine Tr.bind (ar hin hjn) fun rs hrs => ?_
    rw [mulR_64 (by omega) (by omega)]
    simp only [Res.bind_ok]
    have ed := hx (2 + 4 * i + j) (by omega)
    have bd := hb (2 + 4 * i + j) (by omega)
    rw [show (2 + 4 * (i : Int) + (j : Int)) = ((2 + 4 * i + j : Nat) : Int) by omega, ed]
    simp only [Res.bind_ok]
    generalize row.getD (2 + 4 * i + j) 0 = d at bd
    have rl : 0 < rs.length := List.length_pos_iff.mpr hrs.1
    have r16 := hrs.2.2.1
    refine Tr.bind (Q := fun mine : List (List Int) => Ro n N (i : Int) (j : Int) mine ∧ (mine.length : Int) - 1 ≤ lf) ?_ fun mine hm => ?_
    · refine Tr.ite (fun _ => Tr.ok ?_) fun _ => ?_
      · rw [show 1 + lf = ((1 + lf).toNat : Int) by omega, cut_take]
        have hl : (rs.take (min (1 + lf).toNat rs.length)).length = min (1 + lf).toNat rs.length := by rw [List.length_take]; omega
        refine ⟨ro_sub hrs (fun e => ?_) (List.Pairwise.sublist (List.take_sublist _ _) hrs.2.1) fun y hy => List.mem_of_mem_take hy, by rw [hl]; omega⟩
        rw [e, List.length_nil] at hl
        omega
      · have pick : ∀ x : Int, ∃ r, ((modR x (rs.length : Int)).bind fun x41 => ixR rs x41) = .ok r ∧ r ∈ rs := fun x => by
          have m0 := Int.emod_nonneg x (show (rs.length : Int) ≠ 0 by omega)
          have m1 := Int.emod_lt_of_pos x (show (0 : Int) < rs.length by omega)
          rw [modR_pos (by omega), Res.bind_ok]
          exact ixR_mem m0 m1
        obtain ⟨r, er, hrm⟩ := pick d
        rw [er]
        simp only [Res.bind_ok]
        rw [rngR_ok (j := d / 4) (by omega) (by omega)]
        simp only [Res.bind_ok]
        refine Tr.bind (Q := fun ys : List (List Int) => ys ≠ [] ∧ ys.Nodup ∧ (∀ y ∈ ys, y ∈ rs) ∧ (ys.length : Int) - 1 ≤ lf) (tr_forRn (fun _ ys => ys ≠ [] ∧ ys.Nodup ∧ (∀ y ∈ ys, y ∈ rs) ∧ (ys.length : Int) - 1 ≤ lf) ⟨by simp, List.pairwise_singleton _ _, fun y hy => by rw [List.mem_singleton] at hy; rw [hy]; exact hrm, by simp; omega⟩ (fun k ys _ P => ?_) fun ys P => P) fun ys P => Tr.ok ⟨ro_sub hrs P.1 P.2.1 P.2.2.1, P.2.2.2⟩
        obtain ⟨y1, y2, y3, y4⟩ := P
        obtain ⟨r', er', hr'⟩ := pick (d + 1 + k)
        rw [er']
        simp only [Res.bind_ok]
        by_cases c : (ys.length : Int) - 1 < lf ∧ r' ∉ ys
        · have hb' : hasB r' ys = false := by
            cases e : hasB r' ys with
            | false => rfl
            | true => exact absurd (hasB_iff.mp e) c.2
          rw [if_pos (by rw [hb', decide_eq_true c.1]; rfl), appR_ok (by have := y2.length_le_of_subset y3; omega)]
          simp only [Res.bind_ok]
          refine Tr.ok ⟨by simp, List.nodup_append.mpr ⟨y2, List.pairwise_singleton _ _, fun x hx y hy e => ?_⟩, fun y hy => ?_, by rw [List.length_append, List.length_singleton]; have := c.1; omega⟩
          · rw [List.mem_singleton] at hy
            rw [← hy, ← e] at c
            exact c.2 hx
          · rcases List.mem_append.mp hy with z | z
            · exact y3 y z
            · rw [List.mem_singleton] at z
              rw [z]; exact hr'
        · rw [if_neg (by
            rw [Bool.and_eq_true, decide_eq_true_iff]
            rintro ⟨c1, c2⟩
            refine c ⟨c1, fun m => ?_⟩
            rw [hasB_iff.mpr m] at c2
            cases c2)]
          exact Tr.ok ⟨y1, y2, y3, y4⟩
    · obtain ⟨hm1, hm2⟩ := hm
      obtain ⟨es, hs⟩ := sort_ro hm1
      have hml := List.length_pos_iff.mpr hm1.1
      rw [es]
      simp only [Res.bind_ok]
      rw [appR_ok (by omega)]
      refine Tr.ok ⟨by dsimp only; omega, by dsimp only; omega, by dsimp only; rw [List.length_append, List.length_singleton, ql], fun b hb' => ?_⟩
      dsimp only
      rw [List.getD_eq_getElem?_getD]
      by_cases c : b < j
      · rw [List.getElem?_append_left (by omega), ← List.getD_eq_getElem?_getD]
        exact qo b c
      · have : b = j := by omega
        subst this
        rw [List.getElem?_append_right (by omega), ql, Nat.sub_self]
        exact hs
  · obtain ⟨lf', ln⟩ := z
    obtain ⟨q0, q9, ql, qo⟩ := hz
    dsimp only at q0 q9 ql qo ⊢
    rw [appR_ok (by omega)]
    refine Tr.ok ⟨by dsimp only; rw [List.length_append, List.length_singleton, pl], fun line hl => ?_, fun a b ha hb' => ?_, q0, q9⟩
    · rcases List.mem_append.mp hl with z | z
      · exact pr line z
      · rw [List.mem_singleton] at z
        rw [z]; exact ql
    · dsimp only
      rw [List.getD_eq_getElem?_getD (l := M ++ _)]
      by_cases c : a < i
      · rw [List.getElem?_append_left (by omega), ← List.getD_eq_getElem?_getD]
        exact po a b c hb'
      · have : a = i := by omega
        subst this
        rw [List.getElem?_append_right (by omega), pl, Nat.sub_self]
        exact qo b hb'
theorem dedup_len {rs : List (List Int)} (h : Ro n N u v rs) : lenSetTR rs = .ok (rs.length : Int) := by
  unfold lenSetTR
  have := h.2.2.1
  rw [if_pos (by omega), dedupG_self h.2.1]
def srt (M : Menus) : Menus := M.map fun line => line.map fun rs => rs.mergeSort leT
theorem menu_init (h : Net0 n L) (n4 : n ≤ 4) {M : Menus} (hM : Mn n (nearOf n L) M) : N_Menu_init_cNetitpiiqttitpiiqq_lllti (netV n L) M = .ok (netV n L, srt M) := by
  unfold N_Menu_init_cNetitpiiqttitpiiqq_lllti N_checked_menu_cNetitpiiqttitpiiqq_lllti
  have ir : ∀ {u v : Int} {r : List Int}, Rt n (nearOf n L) u v r → N_is_route_cNetitpiiqttitpiiqq_ti_i_i (netV n L) r u v = .ok true := fun hr => is_route h hr
  have sz : (netV n L).1 = (n : Int) := rfl
  rw [sz]
  generalize nearOf n L = N at *
  have e1 : N_frozen_lllti M = .ok M := by
    unfold N_frozen_lllti
    rw [lcR_map (f := fun x1 => N_frozen_llti x1) (g := fun x => x) (by rw [hM.len]; omega) fun line m => frozen_llt line (by rw [hM.row line m]; omega) (fun rs hr => by
      obtain ⟨_, _, _, _, ho⟩ := hM.mem m hr
      have := ho.2.2.1
      omega) fun rs hr y hy => by
      obtain ⟨_, _, _, _, ho⟩ := hM.mem m hr
      have := (ho.2.2.2 y hy).len
      omega, List.map_id']
    rfl
  rw [e1, rngR_nat (by omega)]
  simp only [Res.bind_ok]
  have lp : forR (σ := Unit) (fun x2 x3 => ((forR (σ := Unit) (fun x4 x5 => (((ixR M x3).bind fun x6 => (ixR x6 x5)).bind fun x7 =>
  (((lcR x7 (fun x8 => Res.ok true) (fun x8 => (N_is_route_cNetitpiiqttitpiiqq_ti_i_i (netV n L) x8 x3 x5))).bind fun x9 => (Res.ok (x9.all id))).bind fun x10 =>
  ((if (!(!x7.isEmpty)) = true then Res.ok true else (if (!x10) = true then Res.ok true else ((lenSetTR x7).bind fun x11 => (Res.ok (!decide (x11 = (x7.length : Int))))))).bind fun x12 => if x12 = true then (Res.ex "BadRoute" [("goal", D.int x5), ("sender", D.int x3)]) else
  Res.ok ())))) (upto n) ()).bind fun x14 =>
  Res.ok ())) (upto n) () = .ok () := by
    have key : ∀ r : Res Unit, Tr r (fun _ => True) → r = .ok () := fun r ⟨w, e, _⟩ => e
    refine key _ (tr_forRn (fun _ _ => True) trivial (fun i _ hi _ => ?_) fun _ _ => trivial)
    · refine Tr.bind (Q := fun _ => True) (tr_forRn (fun _ _ => True) trivial (fun j _ hj _ => ?_) fun _ _ => trivial) fun _ _ => Tr.ok trivial
      have hu : Nd n (i : Int) := ⟨by omega, by omega⟩
      have hv : Nd n (j : Int) := ⟨by omega, by omega⟩
      have ho := hM.at_ hu hv
      rw [hM.ix hu hv]
      simp only [Res.bind_ok]
      have h16 := ho.2.2.1
      have e2 : lcR (rsAt M i j) (fun x8 => Res.ok true) (fun x8 => (N_is_route_cNetitpiiqttitpiiqq_ti_i_i (netV n L) x8 (i : Int) (j : Int))) = .ok ((rsAt M i j).map fun _ => true) := lcR_map (by omega) fun r hr => ir (ho.2.2.2 r hr)
      rw [e2]
      simp only [Res.bind_ok]
      have ea : ((rsAt M i j).map fun _ => true).all id = true := by rw [List.all_map]; simp
      have ee : (rsAt M i j).isEmpty = false := by
        cases q : rsAt M (i : Int) (j : Int) with
        | nil => exact absurd q ho.1
        | cons _ _ => rfl
      rw [ea, ee, dedup_len ho, if_neg (by simp), if_neg (by simp)]
      simp only [Res.bind_ok]
      rw [if_neg (by simp)]
      exact Tr.ok trivial
  rw [lp]
  simp only [Res.bind_ok]
  have e3 : lcR M (fun x17 => Res.ok true) (fun x17 => ((lcR x17 (fun x18 => Res.ok true) (fun x18 => ((sortTR x18).bind fun x19 => (Res.ok x19)))).bind fun x20 => (Res.ok x20))) = .ok (srt M) := lcR_map (by rw [hM.len]; omega) fun line hl => by
    rw [lcR_map (g := fun rs : List (List Int) => rs.mergeSort leT) (by rw [hM.row line hl]; omega) fun rs hr => by
      obtain ⟨_, _, _, _, ho⟩ := hM.mem hl hr
      rw [(sort_ro ho).1]
      rfl]
    rfl
  rw [e3]
  rfl
end Kx
namespace Da
open PySem PySem.Spec L2
theorem In.neg {L B : Nat} {q : Rat} (h : In L B q) : In L B (-q) := by
  obtain ⟨n, e, hn⟩ := h
  refine ⟨-n, ?_, by rw [Int.natAbs_neg]; exact hn⟩
  rw [e, Rat.intCast_neg]
  grind
theorem In.sub {L A B : Nat} {p q : Rat} (h : In L A p) (k : In L B q) : In L (A + B) (p - q) := by
  have := h.add k.neg
  rwa [show p + -q = p - q by grind] at this
theorem In.sumAll {L B : Nat} {qs : List Rat} (h : ∀ q ∈ qs, In L B q) : In L (qs.length * B) (sumQ qs) := by
  have := In.sum h qs.length
  rwa [List.take_of_length_le (Nat.le_refl _)] at this
theorem In.sm64 {L B : Nat} {q : Rat} (h : In L B q) (h0 : 0 < L) (hL : L < 18446744073709551616) (hB : B < 18446744073709551616) : Sm q :=
  h.sm h0 (Nat.lt_of_lt_of_le (show L < 2 ^ 64 from hL) (Nat.pow_le_pow_right (by decide) (by decide))) (Nat.lt_of_lt_of_le (show B < 2 ^ 64 from hB) (Nat.pow_le_pow_right (by decide) (by decide)))
theorem neg_num (q : Rat) : (-q).num = -q.num := rfl
theorem neg_den (q : Rat) : (-q).den = q.den := rfl
theorem Sm.neg {q : Rat} (h : Sm q) : Sm (-q) := ⟨by rw [neg_num, Int.natAbs_neg]; exact h.1, by rw [neg_den]; exact h.2⟩
end Da
namespace Kx
open PySem PySem.Spec L2 Da
theorem forR_map70 {α β σ : Type} {f : σ → β → Res σ} {g : α → β} : ∀ (xs : List α) (s : σ), forR f (xs.map g) s = forR (fun s x => f s (g x)) xs s
  | [], s => rfl
  | x :: xs, s => by
    rw [List.map_cons, forR_cons, forR_cons]
    congr 1
    funext s
    exact forR_map70 xs s
theorem forR_sel {α σ : Type} {f g : σ → α → Res σ} {p : α → Bool} : ∀ {xs : List α} {s : σ}, (∀ x ∈ xs, ∀ s, f s x = if p x = true then g s x else .ok s) → forR f xs s = forR g (xs.filter p) s
  | [], s, _ => rfl
  | x :: xs, s, h => by
    rw [forR_cons, h x List.mem_cons_self, List.filter_cons]
    by_cases c : p x = true
    · rw [if_pos c, if_pos c, forR_cons]
      congr 1
      funext s
      exact forR_sel fun y hy => h y (List.mem_cons_of_mem _ hy)
    · rw [if_neg c, if_neg c]
      exact forR_sel fun y hy => h y (List.mem_cons_of_mem _ hy)
theorem forR_congr70 {α σ : Type} {f g : σ → α → Res σ} : ∀ {xs : List α} {s : σ}, (∀ x ∈ xs, ∀ s, f s x = g s x) → forR f xs s = forR g xs s
  | [], s, _ => rfl
  | x :: xs, s, h => by
    rw [forR_cons, forR_cons, h x List.mem_cons_self]
    congr 1
    funext s
    exact forR_congr70 fun y hy => h y (List.mem_cons_of_mem _ hy)
theorem forR_append70 {α σ : Type} {f : σ → α → Res σ} : ∀ {xs ys : List α} {s : σ}, forR f (xs ++ ys) s = (forR f xs s).bind fun s => forR f ys s
  | [], ys, s => rfl
  | x :: xs, ys, s => by
    rw [List.cons_append, forR_cons, forR_cons, Res.bind_assoc]
    congr 1
    funext s
    exact forR_append70
theorem forR_two {α β σ : Type} {f : σ → α → β → Res σ} {ys : List β} : ∀ {xs : List α} {s : σ}, forR (fun s x => forR (fun s y => f s x y) ys s) xs s = forR (fun s (p : α × β) => f s p.1 p.2) (xs.flatMap fun x => ys.map fun y => (x, y)) s
  | [], s => rfl
  | x :: xs, s => by
    rw [forR_cons, List.flatMap_cons, forR_append70, forR_map70]
    congr 1
    funext s
    exact forR_two
theorem big {x : Nat} (h : x < 18446744073709551616) : x < 2 ^ 4400 := Nat.lt_of_lt_of_le h (Nat.le_trans (by decide : 18446744073709551616 ≤ 2 ^ 64) (Nat.pow_le_pow_right (by decide) (by decide)))
def IsMin (qs : List Rat) (m : Rat) : Prop := m ∈ qs ∧ ∀ x ∈ qs, m ≤ x
theorem IsMin.eq {qs qs' : List Rat} {m m' : Rat} (h : IsMin qs m) (h' : IsMin qs' m') (e : ∀ x, x ∈ qs ↔ x ∈ qs') : m = m' :=
  Rat.le_antisymm (h.2 m' ((e m').mpr h'.1)) (h'.2 m ((e m).mp h.1))
open Classical in
def lstQ (qs : List Rat) : Rat := if h : ∃ m, IsMin qs m then h.choose else 0
theorem lstQ_eq {qs : List Rat} {m : Rat} (h : IsMin qs m) : lstQ qs = m := by
  have hx : ∃ m, IsMin qs m := ⟨m, h⟩
  unfold lstQ
  rw [dif_pos hx]
  exact hx.choose_spec.eq h fun _ => Iff.rfl
theorem lstQ_in {qs : List Rat} {m : Rat} (h : IsMin qs m) : lstQ qs ∈ qs := by rw [lstQ_eq h]; exact h.1
theorem compare_q {x m : Rat} (hx : Sm x) (hm : Sm m) : ((N_compare_piiq_piiq (fq x) (fq m)).bind fun x8 => Res.ok (decide (x8 < 0))) = .ok (decide (x < m)) := by
  unfold N_compare_piiq_piiq
  simp only [fq_fst, fq_snd]
  rw [mulR_44 hx.1 hm.d, mulR_44 hm.1 hx.d]
  simp only [Res.bind_ok]
  by_cases c : x < m
  · have := (Rat.lt_iff _ _).mp c
    rw [if_pos (decide_eq_true this), decide_eq_true c]
    rfl
  · have h1 : ¬ x.num * (m.den : Int) < m.num * (x.den : Int) := fun z => c ((Rat.lt_iff _ _).mpr z)
    rw [if_neg (by simpa using h1), decide_eq_false c]
    by_cases c2 : m.num * (x.den : Int) < x.num * (m.den : Int)
    · rw [if_pos (decide_eq_true c2)]; rfl
    · rw [if_neg (by simpa using c2)]; rfl
theorem at_most_q {x m : Rat} (hx : Sm x) (hm : Sm m) : N_law_at_most_piiq_piiq (fq x) (fq m) = .ok (decide (x ≤ m)) := by
  unfold N_law_at_most_piiq_piiq
  simp only [fq_fst, fq_snd]
  rw [mulR_44 hx.1 hm.d, mulR_44 hm.1 hx.d]
  simp only [Res.bind_ok]
  congr 1
  rw [Bool.eq_iff_iff, decide_eq_true_iff, decide_eq_true_iff]
  exact (Rat.le_iff _ _).symm
theorem rle {x y : Rat} (h : ¬ x < y) : y ≤ x := Rat.not_lt.mp h
theorem least_ok {qs : List Rat} (h : qs ≠ []) (hs : ∀ q ∈ qs, Sm q) : Tr (N_least_of_lpiiq (qs.map fq)) fun y => ∃ m, y = fq m ∧ IsMin qs m := by
  unfold N_least_of_lpiiq
  cases qs with
  | nil => exact absurd rfl h
  | cons q qs =>
    have e : ixR ((q :: qs).map fq) 0 = .ok (fq q) := ixR_of (i := 0) (by omega) rfl
    rw [e]
    simp only [Res.bind_ok]
    rw [forR_map70]
    generalize hg : q :: qs = rs at *
    have hq : q ∈ rs := by rw [← hg]; exact List.mem_cons_self
    refine Tr.bind (Q := fun y => ∃ m, y = fq m ∧ IsMin rs m) (tr_forR (fun i y => ∃ m, y = fq m ∧ m ∈ rs ∧ ∀ j, j < i → ∀ x, rs[j]? = some x → m ≤ x) ⟨q, rfl, hq, fun j hj => (by omega)⟩ (fun i x y hx P => ?_) fun y P => ?_) fun y hy => Tr.ok hy
    · obtain ⟨m, rfl, hm, hl⟩ := P
      have hxm := List.mem_of_getElem? hx
      rw [compare_q (hs x hxm) (hs m hm)]
      simp only [Res.bind_ok]
      by_cases c : x < m
      · rw [if_pos (decide_eq_true c)]
        refine Tr.ok ⟨x, rfl, hxm, fun j hj z hz => ?_⟩
        by_cases q : j = i
        · rw [q, hx] at hz
          cases hz
          exact Rat.le_refl
        · exact Rat.le_trans (Rat.le_of_lt c) (hl j (by omega) z hz)
      · rw [if_neg (by simpa using c)]
        refine Tr.ok ⟨m, rfl, hm, fun j hj z hz => ?_⟩
        by_cases q : j = i
        · rw [q, hx] at hz
          cases hz
          exact rle c
        · exact hl j (by omega) z hz
    · obtain ⟨m, rfl, hm, hl⟩ := P
      refine ⟨m, rfl, hm, fun x hx => ?_⟩
      obtain ⟨j, hj⟩ := List.mem_iff_getElem?.mp hx
      exact hl j (List.getElem?_eq_some_iff.mp hj).1 x hj
abbrev Tm := Rat × List Int × List Int
def mx (ts : List Tm) : List ((Int × Int) × List Int × List Int) := ts.map fun t => (fq t.1, t.2.1, t.2.2)
structure MixOk (n : Nat) (ts : List Tm) : Prop where
  wt : ∀ t ∈ ts, Da.In 420 2520 t.1
  dy : ∀ t ∈ ts, t.2.1.Perm (upto n)
  pl : ∀ t ∈ ts, Plc t.2.2
  few : ts.length ≤ 300
def sel (u v : Int) (r : List Int) (t : Tm) : Bool := decide (t.2.1.getD u.toNat 0 = v) && psB r t.2.2
def val (ts : List Tm) (u v : Int) (r : List Int) : Rat := sumQ ((ts.filter (sel u v r)).map fun t => t.1)
variable {n : Nat} {N : List (List Int)} {L : List (Int × Int)} {u v : Int} {ts : List Tm} {r : List Int}
theorem sel_in (h : MixOk n ts) : ∀ q ∈ (ts.filter (sel u v r)).map (fun t => t.1), Da.In 420 2520 q := fun q hq => by
  obtain ⟨t, ht, rfl⟩ := List.mem_map.mp hq
  exact h.wt t (List.mem_filter.mp ht).1
theorem sel_len (h : MixOk n ts) : ((ts.filter (sel u v r)).map fun t => t.1).length ≤ 300 := by
  rw [List.length_map]
  have := List.length_filter_le (sel u v r) ts
  have := h.few
  omega
theorem val_in (h : MixOk n ts) : Da.In 420 756000 (val ts u v r) := Da.In.mono (Da.In.sumAll (sel_in h)) (by
  have := sel_len (u := u) (v := v) (r := r) h
  have := Nat.mul_le_mul_right 2520 this
  omega)
theorem val_sm (h : MixOk n ts) : Sm (val ts u v r) := Da.In.sm64 (val_in h) (by decide) (by decide) (by decide)
theorem ix_d {d : List Int} (hd : d.Perm (upto n)) (hu : Nd n u) : ixR d u = .ok (d.getD u.toNat 0) := ixR_D 0 hu.1 (by rw [hd.length_eq, upto_length]; exact hu.2)
theorem law_val (h : MixOk n ts) (hu : Nd n u) (hr : r ≠ []) (hz : r.length ≤ 1000000) : forR (σ := (Int × Int)) (fun x27 (x28 : (Int × Int) × List Int × List Int) => (((((ixR x28.2.1 u).bind fun x37 => (Res.ok (decide (x37 = v)))).bind fun x38 => (if x38 = true then (N_law_passes_ti_ti r x28.2.2) else Res.ok false)).bind fun x40 => if x40 = true then ((N_law_added_piiq_piiq x27 x28.1).bind fun x39 =>
  Res.ok x39) else
  Res.ok x27).bind fun x41 =>
  Res.ok x41)) (mx ts) (0, 1) = .ok (fq (val ts u v r)) := by
  unfold mx
  rw [forR_map70, forR_sel (p := sel u v r) (g := fun s (t : Tm) => N_law_added_piiq_piiq s (fq t.1)) fun t ht s => by
    dsimp only
    rw [ix_d (h.dy t ht) hu, law_passes (h.pl t ht) hr hz]
    simp only [Res.bind_ok]
    unfold sel
    by_cases c : t.2.1.getD u.toNat 0 = v
    · rw [decide_eq_true c, if_pos rfl, Bool.true_and]
      simp only [Res.bind_ok]
      split
      · cases N_law_added_piiq_piiq s (fq t.1) <;> rfl
      · rfl
    · rw [decide_eq_false c, Bool.false_and]
      rfl]
  have := sum_loop' (m := N_law_added_piiq_piiq) (fun p q hp hq => law_added_q hp hq) (L := 420) (B := 2520) (qs := (ts.filter (sel u v r)).map fun t => t.1) (by decide) (big (by decide)) (big (by have := sel_len (u := u) (v := v) (r := r) h; omega)) (sel_in h)
  rw [forR_map70, forR_map70] at this
  exact this
def hnd (ts : List Tm) : List (List (List Int)) := ts.map fun t => [[(fq t.1).1, (fq t.1).2], t.2.1, t.2.2]
theorem worth_ok (h : MixOk n ts) (hu : Nd n u) (hr : r ≠ []) (hz : r.length ≤ 1000000) : N_route_worth_ttti_i_i_ti (hnd ts) u v r = .ok (fq (val ts u v r)) := by
  unfold N_route_worth_ttti_i_i_ti
  have e1 : ∀ ts : List Tm, mapU un3R (hnd ts) = .ok (ts.map fun t => ([(fq t.1).1, (fq t.1).2], t.2.1, t.2.2)) := fun ts => by
    induction ts with
    | nil => rfl
    | cons t ts ih =>
      unfold hnd at ih ⊢
      rw [List.map_cons]
      unfold mapU
      rw [ih]
      rfl
  rw [Res.bind_ok, e1]
  simp only [nx_ok, Res.bind_ok]
  have hf := h.few
  rw [lcR_filter (p := fun x2 : List Int × List Int × List Int => decide (x2.2.1.getD u.toNat 0 = v) && psB r x2.2.2) (g := fun x2 => x2.1) (by rw [List.length_map]; omega) (fun x hx => by
    obtain ⟨t, ht, rfl⟩ := List.mem_map.mp hx
    dsimp only
    rw [ix_d (h.dy t ht) hu, passes_t (h.pl t ht) hr hz]
    simp only [Res.bind_ok]
    by_cases c : t.2.1.getD u.toNat 0 = v
    · rw [decide_eq_true c, if_pos rfl, Bool.true_and]
    · rw [decide_eq_false c, Bool.false_and]
      rfl) fun _ _ _ => rfl]
  simp only [Res.bind_ok]
  rw [List.filter_map, List.map_map]
  unfold N_fraction_sum_lti
  rw [forR_map70]
  have := sum_loop' (m := N_added_piiq_piiq) (fun p q hp hq => added_q hp hq) (L := 420) (B := 2520) (qs := (ts.filter (sel u v r)).map fun t => t.1) (by decide) (big (by decide)) (big (by have := sel_len (u := u) (v := v) (r := r) h; omega)) (sel_in h)
  rw [forR_map70, forR_map70] at this
  rw [forR_congr70 (g := fun s (t : Tm) => N_added_piiq_piiq s (fq t.1)) fun t _ s => by
    show (N_added_piiq_ti s [(fq t.1).1, (fq t.1).2]).bind _ = _
    have e : N_added_piiq_ti s [(fq t.1).1, (fq t.1).2] = N_added_piiq_piiq s (fq t.1) := by
      unfold N_added_piiq_ti N_added_piiq_piiq
      rfl
    rw [e]
    cases N_added_piiq_piiq s (fq t.1) <;> rfl]
  have e2 : ts.filter ((fun x2 : List Int × List Int × List Int => decide (x2.2.1.getD u.toNat 0 = v) && psB r x2.2.2) ∘ fun t : Tm => ([(fq t.1).1, (fq t.1).2], t.2.1, t.2.2)) = ts.filter (sel u v r) := rfl
  rw [e2, this]
  rfl
/-- the worth of a pair -/
def lst (ts : List Tm) (M : Menus) (p : Int × Int) : Rat := lstQ ((rsAt M p.1 p.2).map fun r => val ts p.1 p.2 r)
def prs (n : Nat) : List (Int × Int) := (upto n).flatMap fun x => (upto n).map fun y => (x, y)
theorem mem_prs {p : Int × Int} : p ∈ prs n ↔ Nd n p.1 ∧ Nd n p.2 := by
  unfold prs
  rw [List.mem_flatMap]
  constructor
  · rintro ⟨x, hx, hp⟩
    obtain ⟨y, hy, rfl⟩ := List.mem_map.mp hp
    exact ⟨mem_upto.mp hx, mem_upto.mp hy⟩
  · intro h
    exact ⟨p.1, mem_upto.mpr h.1, List.mem_map.mpr ⟨p.2, mem_upto.mpr h.2, rfl⟩⟩
theorem isMin_ex {qs : List Rat} (h : qs ≠ []) (hs : ∀ q ∈ qs, Sm q) : ∃ m, IsMin qs m := by
  obtain ⟨_, _, m, _, hm⟩ := least_ok h hs
  exact ⟨m, hm⟩
theorem law_least (n4 : n ≤ 4) (h : MixOk n ts) {M : Menus} (hM : Mn n N M) {p : Int × Int} (hp : p ∈ prs n) : Tr (forR (σ := (Option (Int × Int))) (fun x25 x26 => ((forR (σ := (Int × Int)) (fun x27 (x28 : (Int × Int) × List Int × List Int) => (((((ixR x28.2.1 p.1).bind fun x37 => (Res.ok (decide (x37 = p.2)))).bind fun x38 => (if x38 = true then (N_law_passes_ti_ti x26 x28.2.2) else Res.ok false)).bind fun x40 => if x40 = true then ((N_law_added_piiq_piiq x27 x28.1).bind fun x39 =>
  Res.ok x39) else
  Res.ok x27).bind fun x41 =>
  Res.ok x41)) (mx ts) (0, 1)).bind fun x42 =>
  ((optC x25 (Res.ok x42) fun x47 => ((N_law_at_most_piiq_piiq x42 x47).bind fun x48 => if x48 = true then Res.ok x42 else
  Res.ok x47)).bind fun x49 =>
  Res.ok (some x49)))) (rsAt M p.1 p.2) none) fun o => o = some (fq (lst ts M p)) := by
  obtain ⟨hu, hv⟩ := mem_prs.mp hp
  obtain ⟨r1, r2, r3, r4⟩ := hM.at_ hu hv
  unfold lst
  generalize rsAt M p.1 p.2 = rs at *
  refine tr_forR (fun i o => (i = 0 ∧ o = none) ∨ ∃ m, o = some (fq m) ∧ m ∈ rs.map (fun r => val ts p.1 p.2 r) ∧ ∀ j, j < i → ∀ x, rs[j]? = some x → m ≤ val ts p.1 p.2 x) (.inl ⟨rfl, rfl⟩) (fun i x o hx P => ?_) fun o P => ?_
  · have hxm := List.mem_of_getElem? hx
    have hxr := r4 x hxm
    have hxl := hxr.len
    rw [law_val h hu hxr.ne (by omega)]
    simp only [Res.bind_ok]
    have hin : val ts p.1 p.2 x ∈ rs.map fun r => val ts p.1 p.2 r := List.mem_map.mpr ⟨x, hxm, rfl⟩
    rcases P with ⟨rfl, rfl⟩ | ⟨m, rfl, hm, hl⟩
    · refine Tr.ok (.inr ⟨_, rfl, hin, fun j hj z hz => ?_⟩)
      have : j = 0 := by omega
      rw [this, hx] at hz
      cases hz
      exact Rat.le_refl
    · simp only [optC_some]
      have sm : Sm m := by
        obtain ⟨z, _, rfl⟩ := List.mem_map.mp hm
        exact val_sm h
      rw [at_most_q (val_sm h) sm]
      simp only [Res.bind_ok]
      by_cases c : val ts p.1 p.2 x ≤ m
      · rw [if_pos (decide_eq_true c)]
        refine Tr.ok (.inr ⟨_, rfl, hin, fun j hj z hz => ?_⟩)
        by_cases q : j = i
        · rw [q, hx] at hz
          cases hz
          exact Rat.le_refl
        · exact Rat.le_trans c (hl j (by omega) z hz)
      · rw [if_neg (by simpa using c)]
        refine Tr.ok (.inr ⟨_, rfl, hm, fun j hj z hz => ?_⟩)
        by_cases q : j = i
        · rw [q, hx] at hz
          cases hz
          exact Rat.le_of_lt (Rat.not_le.mp c)
        · exact hl j (by omega) z hz
  · rcases P with ⟨h0, _⟩ | ⟨m, rfl, hm, hl⟩
    · exact absurd (List.eq_nil_of_length_eq_zero h0) r1
    · have : IsMin (rs.map fun r => val ts p.1 p.2 r) m := ⟨hm, fun x hx => by
        obtain ⟨z, hz, rfl⟩ := List.mem_map.mp hx
        obtain ⟨j, hj⟩ := List.mem_iff_getElem?.mp hz
        exact hl j (List.getElem?_eq_some_iff.mp hj).1 z hj⟩
      rw [lstQ_eq this]
end Kx
namespace Kx
open PySem PySem.Spec L2 Da
theorem law_day {n : Nat} {r : List Int} (hn : n ≤ 1000000) (hr : n ≤ r.length) (h0 : ∀ x ∈ r, 0 ≤ x) : ∃ p : List Int, N_law_day_i_li n r = .ok p ∧ p.Perm (upto n) := by
  unfold N_law_day_i_li
  rw [rngR_nat (by omega)]
  simp only [Res.bind_ok, Res.bind_assoc, Res.bind_ret]
  rw [lcR_map (g := fun x => x) (by rw [upto_length]; exact hn) (fun _ _ => rfl), List.map_id']
  dsimp only [Res.bind_ok]
  obtain ⟨s, e, hp, hl⟩ := forR_upto (n := n) (s := (upto n, ([] : List Int))) (f := fun x4 x5 => (nx ((nx ((ixR r x5).bind fun x => modR x (x4.1.length : Int))).bind fun x8 => popR x4.1 x8)).bind fun v => (appR x4.2 v.1).bind fun x => Res.ok (v.2, x))
    (fun i s => (s.2 ++ s.1).Perm (upto n) ∧ s.2.length = i) ⟨List.Perm.refl _, rfl⟩ fun i s hi hp => by
      obtain ⟨hp, hl⟩ := hp
      have hL := hp.length_eq
      rw [List.length_append, upto_length] at hL
      have a := List.getElem?_eq_getElem (show i < r.length by omega)
      have hri := h0 _ (List.getElem_mem (show i < r.length by omega))
      have hz : 0 ≤ r[i]'(by omega) % (s.1.length : Int) ∧ r[i]'(by omega) % (s.1.length : Int) < s.1.length := ⟨Int.emod_nonneg _ (by omega), Int.emod_lt_of_pos _ (by omega)⟩
      rw [ixR_nat a]; dsimp only [Res.bind_ok]
      rw [modR_pos (by omega)]; dsimp only [Res.bind_ok, nx_ok]
      rw [popR_of hz.1 hz.2 (by omega)]; dsimp only [Res.bind_ok, nx_ok]
      rw [appR_ok (by omega)]
      refine ⟨_, rfl, ?_, by dsimp only; rw [List.length_append, hl]; rfl⟩
      dsimp only
      rw [List.append_assoc]
      exact (List.Perm.append_left s.2 (take_out' (by omega))).trans hp
  rw [e]
  refine ⟨s.2, rfl, ?_⟩
  have hL := hp.length_eq
  rw [List.length_append, upto_length] at hL
  have : s.1 = [] := List.eq_nil_of_length_eq_zero (by omega)
  rw [this, List.append_nil] at hp
  exact hp
end Kx
namespace Kx
open PySem PySem.Spec L2 Da
variable {n : Nat} {N : List (List Int)} {L : List (Int × Int)} {u v : Int} {ts : List Tm} {r : List Int}
theorem vals_sm (h : MixOk n ts) {rs : List (List Int)} : ∀ q ∈ rs.map (fun r => val ts u v r), Sm q := fun q hq => by
  obtain ⟨z, _, rfl⟩ := List.mem_map.mp hq
  exact val_sm h
theorem prog_pair (n4 : n ≤ 4) (h : MixOk n ts) {M : Menus} (hM : Mn n N M) {p : Int × Int} (hp : p ∈ prs n) : (((ixR (srt M) p.1).bind fun x5 => (ixR x5 p.2)).bind fun x7 => lcR x7 (fun x6 => Res.ok true) (fun x6 => (N_route_worth_ttti_i_i_ti (hnd ts) p.1 p.2 x6))).bind (fun x8 => (N_least_of_lpiiq x8)) = .ok (fq (lst ts M p)) := by
  obtain ⟨hu, hv⟩ := mem_prs.mp hp
  obtain ⟨hS, hE⟩ := hM.sorted
  have e := hS.ix hu hv
  rw [hE _ _ hu hv] at e
  have ho := hS.at_ hu hv
  rw [hE _ _ hu hv] at ho
  obtain ⟨r1, r2, r3, r4⟩ := ho
  show (((ixR (M.map fun line => line.map fun rs => rs.mergeSort leT) p.1).bind fun x5 => (ixR x5 p.2)).bind _).bind _ = _
  rw [e]
  simp only [Res.bind_ok]
  rw [lcR_map (g := fun r => fq (val ts p.1 p.2 r)) (by omega) fun r hr => worth_ok h hu (r4 r hr).ne (by have := (r4 r hr).len; omega)]
  simp only [Res.bind_ok]
  have em : ((rsAt M p.1 p.2).mergeSort leT).map (fun r => fq (val ts p.1 p.2 r)) = (((rsAt M p.1 p.2).mergeSort leT).map fun r => val ts p.1 p.2 r).map fq := by rw [List.map_map]; rfl
  obtain ⟨y, ey, m, rfl, hm⟩ := least_ok (qs := ((rsAt M p.1 p.2).mergeSort leT).map fun r => val ts p.1 p.2 r) (fun z => r1 (List.map_eq_nil_iff.mp z)) (vals_sm h)
  rw [em, ey]
  congr 2
  have pm := List.mergeSort_perm (rsAt M p.1 p.2) leT
  have mem : ∀ x, x ∈ (((rsAt M p.1 p.2).mergeSort leT).map fun r => val ts p.1 p.2 r) ↔ x ∈ ((rsAt M p.1 p.2).map fun r => val ts p.1 p.2 r) := fun x => (pm.map _).mem_iff
  exact (lstQ_eq ⟨(mem m).mp hm.1, fun x hx => hm.2 x ((mem x).mpr hx)⟩).symm
theorem lst_in (h : MixOk n ts) {M : Menus} (hM : Mn n N M) {p : Int × Int} (hp : p ∈ prs n) : Da.In 420 756000 (lst ts M p) := by
  obtain ⟨hu, hv⟩ := mem_prs.mp hp
  obtain ⟨r1, _⟩ := hM.at_ hu hv
  unfold lst
  obtain ⟨m, hm⟩ := isMin_ex (qs := (rsAt M p.1 p.2).map fun r => val ts p.1 p.2 r) (fun z => r1 (List.map_eq_nil_iff.mp z)) (vals_sm h)
  obtain ⟨z, _, e⟩ := List.mem_map.mp (lstQ_in hm)
  rw [← e]
  exact val_in h
theorem prs_len (n4 : n ≤ 4) : (prs n).length ≤ 16 := by
  rcases (show n = 0 ∨ n = 1 ∨ n = 2 ∨ n = 3 ∨ n = 4 by omega) with rfl | rfl | rfl | rfl | rfl <;> decide
def W (n : Nat) (ts : List Tm) (M : Menus) : Rat := sumQ ((prs n).map (lst ts M))
theorem ws_in (h : MixOk n ts) {M : Menus} (hM : Mn n N M) : ∀ q ∈ (prs n).map (lst ts M), Da.In 420 756000 q := fun q hq => by
  obtain ⟨p, hp, rfl⟩ := List.mem_map.mp hq
  exact lst_in h hM hp
theorem ws_big (n4 : n ≤ 4) {M : Menus} : (((prs n).map (lst ts M)).length + 1) * 756000 < 2 ^ 4400 := big (by
  rw [List.length_map]
  have := prs_len n4
  omega)
theorem hnd_frozen (h : MixOk n ts) (n4 : n ≤ 4) : N_frozen_llli (hnd ts) = .ok (hnd ts) := by
  unfold N_frozen_llli hnd
  have hf := h.few
  rw [lcR_map (f := fun x1 => N_frozen_lli x1) (g := fun x => x) (by rw [List.length_map]; omega) fun x hx => by
    obtain ⟨t, ht, rfl⟩ := List.mem_map.mp hx
    unfold N_frozen_lli
    have l1 : t.2.1.length = n := by rw [(h.dy t ht).length_eq, upto_length]
    have l2 := (h.pl t ht).len
    rw [lcR_map (f := fun x1 => N_frozen_li x1) (g := fun x => x) (by simp) fun r' m => frozen_li (by
      simp only [List.mem_cons, List.not_mem_nil, or_false] at m
      rcases m with rfl | rfl | rfl
      · simp
      · omega
      · omega), List.map_id']
    rfl, List.map_id']
  rfl
theorem mix_prog (n4 : n ≤ 4) (h : MixOk n ts) {M : Menus} (hM : Mn n N M) : N_mix_worth_cMenucNetitpiiqttitpiiqqttttiq_llli (netV n L, srt M) (hnd ts) = .ok (fq (W n ts M)) := by
  unfold N_mix_worth_cMenucNetitpiiqttitpiiqqttttiq_llli N_pairs_of_cMenucNetitpiiqttitpiiqqttttiq
  have sz : (netV n L).1 = (n : Int) := rfl
  have pl := prs_len n4
  dsimp only
  rw [hnd_frozen h n4, sz, rngR_nat (by omega)]
  simp only [Res.bind_ok]
  have e : lc2R (upto n) (fun x1 => Res.ok true) (fun x1 => (Res.ok (upto n))) (fun x1 x2 => Res.ok true) (fun x1 x2 => (Res.ok (x1, x2))) = .ok (prs n) := lc2_flat (g := fun _ => upto n) (k := fun x y => (x, y)) (fun _ _ => rfl) (fun _ _ _ _ => rfl) (by
    have : (prs n).length ≤ 1000000 := by omega
    exact this)
  rw [e]
  simp only [Res.bind_ok]
  refine Tr.eq (Tr.bind (tr_app (fun p => fq (lst ts M p)) (by omega) (fun p hp s hs => ?_) (Q := fun ws => ws = ((prs n).map (lst ts M)).map fq) (by rw [List.map_map]; rfl)) fun ws hw => ?_)
  · rw [prog_pair n4 h hM hp]
    simp only [Res.bind_ok]
    rw [appR_ok (by omega)]
    exact Tr.ok rfl
  · rw [hw, fraction_sum_q (by decide) (big (by decide)) (ws_big n4) (ws_in h hM)]
    exact Tr.ok rfl
theorem mix_law (n4 : n ≤ 4) (h : MixOk n ts) {M : Menus} (hM : Mn n N M) : N_law_mix_worth_lllti_lppiiqtitiq M (mx ts) = .ok (fq (W n ts M)) := by
  unfold N_law_mix_worth_lllti_lppiiqtitiq
  rw [hM.len, rngR_nat (by omega), Res.bind_ok]
  rw [forR_congr70 fun x _ s => by rw [Res.bind_ok, Res.bind_ret]]
  rw [forR_two]
  have := sum_loop' (m := N_law_added_piiq_piiq) (fun p q hp hq => law_added_q hp hq) (L := 420) (B := 756000) (qs := (prs n).map (lst ts M)) (by decide) (big (by decide)) (ws_big n4) (ws_in h hM)
  rw [forR_map70, forR_map70] at this
  show ((forR _ (prs n) _).bind _) = _
  rw [forR_congr70 (g := fun s p => N_law_added_piiq_piiq s (fq (lst ts M p))) fun p hp s => by
    obtain ⟨hu, hv⟩ := mem_prs.mp hp
    rw [hM.ix hu hv, Res.bind_ok, (law_least n4 h hM hp).eq, Res.bind_ok, Res.bind_ret]
    unfold N_law_added_piiq_opiiq N_law_added_piiq_piiq
    rfl, this]
  rfl
theorem W_nil {M : Menus} (hM : Mn n N M) : W n [] M = 0 := by
  unfold W
  have h : MixOk n [] := ⟨fun t ht => (nomatch ht), fun t ht => (nomatch ht), fun t ht => (nomatch ht), by simp⟩
  rw [List.map_congr_left (g := fun _ => (0 : Rat)) fun p hp => ?_, sumQ_zero]
  obtain ⟨hu, hv⟩ := mem_prs.mp hp
  obtain ⟨r1, _⟩ := hM.at_ hu hv
  unfold lst
  obtain ⟨m, hm⟩ := isMin_ex (qs := (rsAt M p.1 p.2).map fun r => val [] p.1 p.2 r) (fun z => r1 (List.map_eq_nil_iff.mp z)) (vals_sm h)
  obtain ⟨z, _, e⟩ := List.mem_map.mp (lstQ_in hm)
  rw [← e]
  rfl
end Kx
namespace Kx
open PySem PySem.Spec L2 Da
variable {n : Nat} {N : List (List Int)} {L : List (Int × Int)} {u v : Int} {ts : List Tm} {r : List Int}
theorem mix_snoc {t : Tm} (h : MixOk n ts) (w : Da.In 420 2520 t.1) (d : t.2.1.Perm (upto n)) (p : Plc t.2.2) (f : ts.length < 300) : MixOk n (ts ++ [t]) := by
  refine ⟨fun x hx => ?_, fun x hx => ?_, fun x hx => ?_, by rw [List.length_append, List.length_singleton]; omega⟩ <;> (
    rcases List.mem_append.mp hx with z | z
    · first | exact h.wt x z | exact h.dy x z | exact h.pl x z
    · rw [List.mem_singleton] at z
      rw [z]
      assumption)
theorem mx_snoc {t : Tm} : mx (ts ++ [t]) = mx ts ++ [(fq t.1, t.2.1, t.2.2)] := by unfold mx; rw [List.map_append]; rfl
theorem sz19 : (((repR [(60 : Int)] 6).bind fun x1 => (catR [8] x1)).bind fun x2 => ((repR [3, 42, 42] 4).bind fun x3 => (catR x2 x3))) = .ok [8, 60, 60, 60, 60, 60, 60, 3, 42, 42, 3, 42, 42, 3, 42, 42, 3, 42, 42] := by
  rw [repR_ok (by decide) (by decide), repR_ok (by decide) (by decide)]
  simp only [Res.bind_ok]
  rw [catR_ok (by decide), Res.bind_ok, catR_ok (by decide)]
  rfl
theorem sz18 : ((repR [(12 : Int)] 16).bind fun x9 => (catR [3, 11] x9)) = .ok [3, 11, 12, 12, 12, 12, 12, 12, 12, 12, 12, 12, 12, 12, 12, 12, 12, 12] := by
  rw [repR_ok (by decide) (by decide)]
  simp only [Res.bind_ok]
  rw [catR_ok (by decide)]
  rfl
theorem weight {t d : Int} (ht : -2 ≤ t ∧ t ≤ 6) (hd : d ∈ [1, 2, 3, 5, 7, (12 : Int)]) : ∃ q : Rat, N_law_fraction_i_i t d = .ok (fq q) ∧ Da.In 420 2520 q := by
  have l64 : ∀ x : Int, -20 ≤ x → x ≤ 20 → x.natAbs < Lim := fun x h1 h2 => lt_lim (by omega)
  have key : ∀ (k : Nat) (d : Int), 0 < d → d ≤ 12 → d * k = (420 : Nat) → k ≤ 420 → ∃ q : Rat, N_law_fraction_i_i t d = .ok (fq q) ∧ Da.In 420 2520 q := fun k d d0 d1 hk k4 => by
    refine ⟨_, law_fraction d0 (l64 t (by omega) (by omega)) (l64 d (by omega) (by omega)), ?_⟩
    refine Da.In.mono (Da.In.of k d0 (by decide) hk) ?_
    have h1 : t.natAbs ≤ 6 := by omega
    have := Nat.mul_le_mul h1 k4
    omega
  simp only [List.mem_cons, List.not_mem_nil, or_false] at hd
  rcases hd with rfl | rfl | rfl | rfl | rfl | rfl
  · exact key 420 1 (by decide) (by decide) (by decide) (by decide)
  · exact key 210 2 (by decide) (by decide) (by decide) (by decide)
  · exact key 140 3 (by decide) (by decide) (by decide) (by decide)
  · exact key 84 5 (by decide) (by decide) (by decide) (by decide)
  · exact key 60 7 (by decide) (by decide) (by decide) (by decide)
  · exact key 35 12 (by decide) (by decide) (by decide) (by decide)
theorem copy70 (h : ts.length ≤ 1000) : lcR (mx ts) (fun x62 => Res.ok true) (fun x62 => (Res.ok [[x62.1.1, x62.1.2], x62.2.1, x62.2.2])) = .ok (hnd ts) := by
  unfold mx
  rw [lcR_mapp (k := fun t : Tm => (fq t.1, t.2.1, t.2.2)) (fun t : Tm => [[(fq t.1).1, (fq t.1).2], t.2.1, t.2.2]) (by omega) fun _ _ => rfl]
  rfl
end Kx
namespace Kx
open PySem PySem.Spec L2 Da
variable {n : Nat} {N : List (List Int)} {L : List (Int × Int)} {u v : Int} {ts : List Tm} {r : List Int}
theorem bnd18 {row : List Int} (h : Digs [3, 11, 12, 12, 12, 12, 12, 12, 12, 12, 12, 12, 12, 12, 12, 12, 12, 12] row) : ∀ k : Nat, k < 18 → 0 ≤ row.getD k 0 ∧ row.getD k 0 < 100 := fun k hk => by
  have h9 : ∀ s ∈ [3, 11, 12, 12, 12, 12, 12, 12, 12, 12, 12, 12, 12, 12, 12, 12, 12, (12 : Int)], s < 100 := by decide
  have hs := List.getElem?_eq_getElem (l := [3, 11, 12, 12, 12, 12, 12, 12, 12, 12, 12, 12, 12, 12, 12, 12, 12, (12 : Int)]) (i := k) hk
  have h1 := digs_at h hs
  have h2 := h9 _ (List.mem_of_getElem? hs)
  exact ⟨h1.1, Int.lt_trans h1.2 h2⟩
theorem dig19 (c : Int) : ∃ row, N_law_digits_i_li c [8, 60, 60, 60, 60, 60, 60, 3, 42, 42, 3, 42, 42, 3, 42, 42, 3, 42, 42] = .ok row ∧ Digs [8, 60, 60, 60, 60, 60, 60, 3, 42, 42, 3, 42, 42, 3, 42, 42, 3, 42, 42] row := law_digits c _ (by decide) (by decide)
theorem dig18 (c : Int) : ∃ row, N_law_digits_i_li c [3, 11, 12, 12, 12, 12, 12, 12, 12, 12, 12, 12, 12, 12, 12, 12, 12, 12] = .ok row ∧ Digs [3, 11, 12, 12, 12, 12, 12, 12, 12, 12, 12, 12, 12, 12, 12, 12, 12, 12] row := law_digits c _ (by decide) (by decide)
theorem bind_eq' {α β : Type} {r : Res α} {v : α} {f : α → Res β} {w : Res β} (h : r = .ok v) (k : f v = w) : r.bind f = w := by rw [h]; exact k
theorem tail_ok (n4 : n ≤ 4) {M : Menus} (hM : Mn n (nearOf n L) M) (ht : MixOk n ts) : Tr ((lcR (mx ts) (fun x62 => Res.ok true) (fun x62 => (Res.ok [[x62.1.1, x62.1.2], x62.2.1, x62.2.2]))).bind fun x63 =>
  ((lcR (mx ts) (fun x64 => Res.ok true) (fun x64 => (Res.ok [[x64.1.1, x64.1.2], x64.2.1, x64.2.2]))).bind fun x65 =>
  ((((nx ((N_mix_worth_cMenucNetitpiiqttitpiiqqttttiq_llli (netV n L, srt M) x63).bind fun x66 => ((N_law_mix_worth_lllti_lppiiqtitiq M (mx ts)).bind fun x67 => (N_law_same_piiq_piiq x66 x67)))).bind fun x68 => Res.ok (!x68)).bind fun x69 => (if x69 = true then Res.ok true else (Res.ok (!decide (x63 = x65))))).bind fun x71 => if x71 = true then (Res.ok false) else
  ((N_mix_worth_cMenucNetitpiiqttitpiiqqttttiq_llli (netV n L, srt M) []).bind fun x70 => (N_law_same_piiq_piiq x70 (0, 1)))))) fun b => b = true := by
  have hf := ht.few
  have h0' : MixOk n [] := ⟨fun t ht => (nomatch ht), fun t ht => (nomatch ht), fun t ht => (nomatch ht), by simp⟩
  refine bind_eq (copy70 (by omega)) ?_
  refine bind_eq (copy70 (by omega)) ?_
  have e1 : ((N_mix_worth_cMenucNetitpiiqttitpiiqqttttiq_llli (netV n L, srt M) (hnd ts)).bind fun x66 => ((N_law_mix_worth_lllti_lppiiqtitiq M (mx ts)).bind fun x67 => (N_law_same_piiq_piiq x66 x67))) = .ok true := by
    rw [mix_prog n4 ht hM, Res.bind_ok, mix_law n4 ht hM, Res.bind_ok, law_same_pii, decide_eq_true rfl]
  rw [e1]
  refine Tr.bind (Q := fun b => b = false) (Tr.ok (by simp)) fun b hb => Tr.itF hb ?_
  refine bind_eq (v := fq (W n [] M)) (mix_prog n4 h0' hM) ?_
  rw [W_nil hM, law_same_pii]
  exact Tr.ok rfl
theorem draw_ok (ns : List Int) (n4 : n ≤ 4) {m : Nat} (hm : m ≤ 12) {pls : List (List Int)} (hpl : ∀ {pl : List Int}, pl ∈ pls → Plc pl) (hp0 : 0 < pls.length) (hp1 : pls.length ≤ 30000) : Tr (forR (σ := (List ((Int × Int) × (List Int) × (List Int)))) (fun x21 x22 => (((N_law_cell_fi_i ns (3 + x22)).bind fun x24 => (((repR [24] 4).bind fun x23 => (catR [(pls.length : Int), 9, 6, 4] x23)).bind fun x25 => (N_law_digits_i_li x24 x25))).bind fun x26 =>
  ((((ixR x26 1).bind fun x27 => (Res.ok (x27 - 2))).bind fun x29 => (((ixR x26 2).bind fun x28 => (ixR [1, 2, 3, 5, 7, 12] x28)).bind fun x30 => (N_law_fraction_i_i x29 x30))).bind fun x31 =>
  ((((N_law_day_i_li n (cutN x26 (some 4) none)).bind fun x33 => (((ixR x26 0).bind fun x32 => (ixR pls x32)).bind fun x34 => (Res.ok (x31, x33, x34)))).bind fun x35 => appR x21 x35).bind fun x36 =>
  ((((ixR x26 3).bind fun x45 => (Res.ok (decide (x45 = 0)))).bind fun x48 => if x48 = true then (((ixR x36 0).bind fun x46 => appR x36 x46).bind fun x47 =>
  Res.ok x47) else
  Res.ok x36).bind fun x49 =>
  Res.ok x49))))) (upto m) []) fun x => ∃ ts, x = mx ts ∧ MixOk n ts ∧ ts.length ≤ 24 := by
  refine tr_forRn (fun i x => ∃ ts, x = mx ts ∧ MixOk n ts ∧ ts.length ≤ 2 * i) ⟨[], rfl, ⟨fun t ht => (nomatch ht), fun t ht => (nomatch ht), fun t ht => (nomatch ht), by simp⟩, by simp⟩ (fun i x hi P => ?_) fun x P => ?_
  · obtain ⟨ts, rfl, ht, hl⟩ := P
    obtain ⟨cc, ec⟩ := law_cell ns (3 + (i : Int)) (by omega) (by omega)
    rw [ec, repR_ok (by decide) (by decide)]
    simp only [Res.bind_ok]
    have e24 : (List.replicate (4 : Int).toNat [(24 : Int)]).flatten = [24, 24, 24, 24] := rfl
    rw [e24, catR_ok (by simp)]
    simp only [Res.bind_ok]
    obtain ⟨rw', dw, hw⟩ := law_digits cc ([(pls.length : Int), 9, 6, 4] ++ [24, 24, 24, 24]) (by
      intro s hs
      simp only [List.cons_append, List.nil_append, List.mem_cons, List.not_mem_nil, or_false] at hs
      rcases hs with rfl | rfl | rfl | rfl | rfl | rfl | rfl | rfl <;> omega) (by simp)
    rw [dw]
    simp only [Res.bind_ok]
    obtain ⟨k0, f0, k00, k01⟩ := hw.ix (i := 0) (s := (pls.length : Int)) rfl
    obtain ⟨k1, f1, k10, k11⟩ := hw.ix (i := 1) (s := 9) rfl
    obtain ⟨k2, f2, k20, k21⟩ := hw.ix (i := 2) (s := 6) rfl
    obtain ⟨k3, f3, k30, k31⟩ := hw.ix (i := 3) (s := 4) rfl
    rw [show ixR rw' 0 = .ok k0 from f0, show ixR rw' 1 = .ok k1 from f1, show ixR rw' 2 = .ok k2 from f2, show ixR rw' 3 = .ok k3 from f3]
    simp only [Res.bind_ok]
    obtain ⟨dn, edn, hdn⟩ := ixR_mem (xs := [1, 2, 3, 5, 7, (12 : Int)]) (i := k2) k20 (by simpa using k21)
    obtain ⟨q, eq, hq⟩ := weight (t := k1 - 2) (d := dn) (by omega) hdn
    rw [edn]
    simp only [Res.bind_ok]
    rw [eq]
    simp only [Res.bind_ok]
    have lw : rw'.length = 8 := hw.1
    have c4 : cutN rw' (some 4) none = rw'.drop 4 := by
      unfold cutN
      rw [HT.sIx_none, show (some (4 : Int)) = some ((4 : Nat) : Int) from rfl, HT.sIx_nat, lw]
      refine List.take_of_length_le ?_
      rw [List.length_drop]
      omega
    obtain ⟨dy, ed, hd⟩ := law_day (n := n) (r := rw'.drop 4) (by omega) (by rw [List.length_drop]; omega) fun x hx => by
      obtain ⟨j, hj⟩ := List.mem_iff_getElem?.mp (List.mem_of_mem_drop hx)
      have hjl := (List.getElem?_eq_some_iff.mp hj).1
      rw [hw.1] at hjl
      obtain ⟨y, ey, y0, _⟩ := hw.get (List.getElem?_eq_getElem hjl)
      rw [hj] at ey
      cases ey
      exact y0
    rw [c4, ed]
    simp only [Res.bind_ok]
    obtain ⟨pl, epl, hplm⟩ := ixR_mem (xs := pls) (i := k0) k00 k01
    rw [epl]
    simp only [Res.bind_ok]
    have lm : (mx ts).length = ts.length := by unfold mx; rw [List.length_map]
    rw [appR_ok (by omega)]
    simp only [Res.bind_ok]
    have hi13 : i < 13 := by omega
    have h2' := mix_snoc (t := (q, dy, pl)) ht hq hd (hpl hplm) (by omega)
    rw [show mx ts ++ [(fq q, dy, pl)] = mx (ts ++ [(q, dy, pl)]) from (mx_snoc (t := (q, dy, pl))).symm]
    have ll : (ts ++ [((q, dy, pl) : Tm)]).length = ts.length + 1 := by rw [List.length_append]; rfl
    refine Tr.bind (Q := fun x => ∃ ts, x = mx ts ∧ MixOk n ts ∧ ts.length ≤ 2 * (i + 1)) (Tr.ite (fun _ => ?_) fun _ => Tr.ok ⟨_, rfl, h2', by omega⟩) fun x hx => Tr.ok hx
    generalize ts ++ [((q, dy, pl) : Tm)] = us at h2' ll
    obtain ⟨t, us', rfl⟩ : ∃ t us', us = t :: us' := by
      cases us with
      | nil => simp at ll
      | cons t us' => exact ⟨t, us', rfl⟩
    have ez : ixR (mx (t :: us')) 0 = .ok (fq t.1, t.2.1, t.2.2) := ixR_of (i := 0) (by omega) rfl
    have lm' : (mx (t :: us')).length = (t :: us').length := by unfold mx; rw [List.length_map]
    rw [ez]
    simp only [Res.bind_ok]
    rw [appR_ok (by omega)]
    refine Tr.ok ⟨(t :: us') ++ [t], mx_snoc.symm, mix_snoc h2' (h2'.wt t List.mem_cons_self) (h2'.dy t List.mem_cons_self) (h2'.pl t List.mem_cons_self) (by omega), by rw [List.length_append, List.length_singleton]; omega⟩
  · obtain ⟨ts, e, ht, hl⟩ := P
    exact ⟨ts, e, ht, by omega⟩
theorem many_ok (ht : MixOk n ts) (hl : ts.length ≤ 24) (m1 : Int) : Tr (if decide (m1 = 0) = true then ((repR (mx ts) 12).bind fun x59 => Res.ok x59) else Res.ok (mx ts)) fun x => ∃ ts, x = mx ts ∧ MixOk n ts := by
  refine Tr.ite (fun _ => ?_) fun _ => Tr.ok ⟨ts, rfl, ht⟩
  have lm : (mx ts).length = ts.length := by unfold mx; rw [List.length_map]
  rw [repR_ok (by decide) (by rw [lm]; show ts.length * 12 ≤ _; omega), Res.bind_ok]
  have hm : ∀ t ∈ (List.replicate (12 : Int).toNat ts).flatten, t ∈ ts := fun t hx => by
    obtain ⟨l, hl, hx⟩ := List.mem_flatten.mp hx
    rw [List.eq_of_mem_replicate hl] at hx
    exact hx
  refine Tr.ok ⟨(List.replicate (12 : Int).toNat ts).flatten, ?_, ⟨fun t hx => ht.wt t (hm t hx), fun t hx => ht.dy t (hm t hx), fun t hx => ht.pl t (hm t hx), ?_⟩⟩
  · unfold mx
    rw [List.map_flatten, List.map_replicate]
  · rw [List.length_flatten, List.map_replicate, List.sum_replicate_nat]
    show 12 * ts.length ≤ _
    omega
theorem law_ok (ns : List Int) : Tr (N_law_fi ns) fun b => b = true := by
  unfold N_law_fi
  obtain ⟨c0, e0⟩ := law_cell ns 0 (by omega) (by omega)
  obtain ⟨c1, e1⟩ := law_cell ns 1 (by omega) (by omega)
  obtain ⟨c2, e2⟩ := law_cell ns 2 (by omega) (by omega)
  obtain ⟨r0, d0, h0⟩ := dig19 c0
  obtain ⟨r1, d1, h1⟩ := dig18 c1
  obtain ⟨r2, d2, h2⟩ := law_digits c2 [13, 8] (by simp) (by simp)
  have l0 : 19 ≤ r0.length := by rw [h0.1]; decide
  refine Tr.bind (Q := fun w : Int × List (Int × Int) => ∃ n : Nat, w.1 = (n : Int) ∧ n ≤ 7 ∧ (n : Int) ≤ 4 ∧ Net0 n w.2) (bind_eq (v := r0) (by rw [e0, Res.bind_ok, sz19, Res.bind_ok, d0]) (net_of l0 (digs_at h0 (s := 8) rfl) (by omega))) ?_
  rintro ⟨_, L⟩ ⟨n, rfl, _, n4', hL⟩
  have n4 : n ≤ 4 := by
    have : (n : Int) ≤ 4 := n4'
    omega
  have hL : Net0 n L := hL
  have hN := hL.near
  have l1 : r1.length = 18 := h1.1
  obtain ⟨x13, e13, x0, x9⟩ := h1.ix (i := 1) (s := 11) rfl
  refine bind_eq (law_near hL) ?_
  refine bind_eq (v := r1) (by rw [e1, Res.bind_ok, sz18, Res.bind_ok, d1]) ?_
  refine Tr.bind (Q := fun M => Mn n (nearOf n L) M) (bind_eq e13 (menu_ok hL n4 l1 (bnd18 h1) x0 (by omega))) fun M hM => ?_
  refine bind_eq (v := (netV n L, srt M)) (bind_eq' (net_init hL) (menu_init hL n4 hM)) ?_
  refine bind_eq (law_places hN) ?_
  refine bind_eq (v := r2) (by rw [e2, Res.bind_ok, d2]) ?_
  obtain ⟨m0, em0, m00, m01⟩ := h2.ix (i := 0) (s := 13) rfl
  obtain ⟨m1, em1, m10, m11⟩ := h2.ix (i := 1) (s := 8) rfl
  refine Tr.bind (Q := fun x => ∃ ts, x = mx ts ∧ MixOk n ts ∧ ts.length ≤ 24) (bind_eq (v := upto m0.toNat) (bind_eq' em0 (rngR_ok m00 (by omega))) (draw_ok ns n4 (m := m0.toNat) (by omega) (fun hp => places_plc hN hp) (places_pos hN) (places_len hN))) fun x hx => ?_
  obtain ⟨ts, rfl, ht, hl⟩ := hx
  refine Tr.bind (Q := fun x => ∃ ts, x = mx ts ∧ MixOk n ts) (bind_eq (v := decide (m1 = 0)) (bind_eq' em1 rfl) (many_ok ht hl m1)) fun x hx => ?_
  obtain ⟨ts, rfl, ht⟩ := hx
  exact tail_ok n4 hM ht
theorem law_true (ns : List Int) (_ : ns.length ≤ 63) (_ : ∀ z ∈ ns, Builtin.Int.intBits z ≤ 1048576) : m_law [.frl (ns.map D.int)] = .ok (.bl true) := rf_use (n_law_fi ns) (law_ok ns).eq
end Kx
namespace Kx
open PySem PySem.Spec L2 Da
theorem all_mk {P : Program} {w : World} {K : PySem.W.Frag} {h : Heap} {mg : Str → Option Value} {fa : Addr} (X : K.In h) (G : h.Ns mainGlobals mg) (hfa : mg "law" = some (.ref fa))
    {C0 C1 : Addr}
    (xc0 : PySem.W.nsIn K mainGlobals "Menu" = some (some (.ref C0))) (xp0 : PySem.W.plainGet K C0 Str.empty = true) (xh0 : PySem.W.hasDictIn K C0 = true) (xo0 : PySem.W.plainOver K C0 = true) (xs0 : PySem.W.findIn K (.ref C0) "__setattr__" = some (some (.builtin "object.__setattr__")))
    (xc1 : PySem.W.nsIn K mainGlobals "Net" = some (some (.ref C1))) (xp1 : PySem.W.plainGet K C1 Str.empty = true) (xh1 : PySem.W.hasDictIn K C1 = true) (xo1 : PySem.W.plainOver K C1 = true) (xs1 : PySem.W.findIn K (.ref C1) "__setattr__" = some (some (.builtin "object.__setattr__")))
    (xf_Menu_net : PySem.W.findIn K (.ref C0) "net" = some none)
    (xf_Menu_rows : PySem.W.findIn K (.ref C0) "rows" = some none)
    (xf_Net_lane_row : PySem.W.findIn K (.ref C1) "lane_row" = some none)
    (xf_Net_links : PySem.W.findIn K (.ref C1) "links" = some none)
    (xf_Net_near : PySem.W.findIn K (.ref C1) "near" = some none)
    (xf_Net_size : PySem.W.findIn K (.ref C1) "size" = some none)
    {f0 f1 f2 f3 f4 f5 f6 f7 f8 f9 f10 f11 f12 f13 f14 f15 f16 f17 f18 f19 f20 f21 f22 f23 f24 f25 f26 f27 f28 f29 f30 f31 f32 f33 f34 f35 f36 f37 f38 : Addr} {od0 an0 od1 an1 od2 an2 od3 an3 od4 an4 od5 an5 od6 an6 od7 an7 od8 an8 od9 an9 od10 an10 od11 an11 od12 an12 od13 an13 od14 an14 od15 an15 od16 an16 od17 an17 od18 an18 od19 an19 od20 an20 od21 an21 od22 an22 od23 an23 od24 an24 od25 an25 od26 an26 od27 an27 od28 an28 od29 an29 od30 an30 od31 an31 od32 an32 od33 an33 od34 an34 od35 an35 od36 an36 od37 an37 od38 an38 : Option Addr} {sl0 sl1 sl2 sl3 sl4 sl5 sl6 sl7 sl8 sl9 sl10 sl11 sl12 sl13 sl14 sl15 sl16 sl17 sl18 sl19 sl20 sl21 sl22 sl23 sl24 sl25 sl26 sl27 sl28 sl29 sl30 sl31 sl32 sl33 sl34 sl35 sl36 sl37 sl38 : Array (Option Value)} {oc0 kv0 dc0 pm0 cd0 ct0 oc1 kv1 dc1 pm1 cd1 ct1 oc2 kv2 dc2 pm2 cd2 ct2 oc3 kv3 dc3 pm3 cd3 ct3 oc4 kv4 dc4 pm4 cd4 ct4 oc5 kv5 dc5 pm5 cd5 ct5 oc6 kv6 dc6 pm6 cd6 ct6 oc7 kv7 dc7 pm7 cd7 ct7 oc8 kv8 dc8 pm8 cd8 ct8 oc9 kv9 dc9 pm9 cd9 ct9 oc10 kv10 dc10 pm10 cd10 ct10 oc11 kv11 dc11 pm11 cd11 ct11 oc12 kv12 dc12 pm12 cd12 ct12 oc13 kv13 dc13 pm13 cd13 ct13 oc14 kv14 dc14 pm14 cd14 ct14 oc15 kv15 dc15 pm15 cd15 ct15 oc16 kv16 dc16 pm16 cd16 ct16 oc17 kv17 dc17 pm17 cd17 ct17 oc18 kv18 dc18 pm18 cd18 ct18 oc19 kv19 dc19 pm19 cd19 ct19 oc20 kv20 dc20 pm20 cd20 ct20 oc21 kv21 dc21 pm21 cd21 ct21 oc22 kv22 dc22 pm22 cd22 ct22 oc23 kv23 dc23 pm23 cd23 ct23 oc24 kv24 dc24 pm24 cd24 ct24 oc25 kv25 dc25 pm25 cd25 ct25 oc26 kv26 dc26 pm26 cd26 ct26 oc27 kv27 dc27 pm27 cd27 ct27 oc28 kv28 dc28 pm28 cd28 ct28 oc29 kv29 dc29 pm29 cd29 ct29 oc30 kv30 dc30 pm30 cd30 ct30 oc31 kv31 dc31 pm31 cd31 ct31 oc32 kv32 dc32 pm32 cd32 ct32 oc33 kv33 dc33 pm33 cd33 ct33 oc34 kv34 dc34 pm34 cd34 ct34 oc35 kv35 dc35 pm35 cd35 ct35 oc36 kv36 dc36 pm36 cd36 ct36 oc37 kv37 dc37 pm37 cd37 ct37 oc38 kv38 dc38 pm38 cd38 ct38 : Value}
    (a0 : PySem.W.nsIn K mainGlobals "_law_net" = some (some (.ref f0))) (l0 : K.lookup f0 = some ⟨oc0, od0, .func (PySem.W.fnOf "_law_net" "_law_net" (defArgs s_law_net) (defBody s_law_net) (defScope s_law_net) .none kv0 dc0 pm0 an0 cd0 ct0), sl0⟩) (c0 : PySem.W.codeIn K cd0 "_law_net" = true) (k0 : PySem.W.keepIn K (.ref f0) = true)
    (a1 : PySem.W.nsIn K mainGlobals "_law_near" = some (some (.ref f1))) (l1 : K.lookup f1 = some ⟨oc1, od1, .func (PySem.W.fnOf "_law_near" "_law_near" (defArgs s_law_near) (defBody s_law_near) (defScope s_law_near) .none kv1 dc1 pm1 an1 cd1 ct1), sl1⟩) (c1 : PySem.W.codeIn K cd1 "_law_near" = true) (k1 : PySem.W.keepIn K (.ref f1) = true)
    (a2 : PySem.W.nsIn K mainGlobals "_law_digits" = some (some (.ref f2))) (l2 : K.lookup f2 = some ⟨oc2, od2, .func (PySem.W.fnOf "_law_digits" "_law_digits" (defArgs s_law_digits) (defBody s_law_digits) (defScope s_law_digits) .none kv2 dc2 pm2 an2 cd2 ct2), sl2⟩) (c2 : PySem.W.codeIn K cd2 "_law_digits" = true) (k2 : PySem.W.keepIn K (.ref f2) = true)
    (a3 : PySem.W.nsIn K mainGlobals "_law_all_routes" = some (some (.ref f3))) (l3 : K.lookup f3 = some ⟨oc3, od3, .func (PySem.W.fnOf "_law_all_routes" "_law_all_routes" (defArgs s_law_all_routes) (defBody s_law_all_routes) (defScope s_law_all_routes) .none kv3 dc3 pm3 an3 cd3 ct3), sl3⟩) (c3 : PySem.W.codeIn K cd3 "_law_all_routes" = true) (k3 : PySem.W.keepIn K (.ref f3) = true)
    (a4 : PySem.W.nsIn K mainGlobals "_law_menu" = some (some (.ref f4))) (l4 : K.lookup f4 = some ⟨oc4, od4, .func (PySem.W.fnOf "_law_menu" "_law_menu" (defArgs s_law_menu) (defBody s_law_menu) (defScope s_law_menu) .none kv4 dc4 pm4 an4 cd4 ct4), sl4⟩) (c4 : PySem.W.codeIn K cd4 "_law_menu" = true) (k4 : PySem.W.keepIn K (.ref f4) = true)
    (a5 : PySem.W.nsIn K mainGlobals "frozen" = some (some (.ref f5))) (l5 : K.lookup f5 = some ⟨oc5, od5, .func (PySem.W.fnOf "frozen" "frozen" (defArgs s_frozen) (defBody s_frozen) (defScope s_frozen) .none kv5 dc5 pm5 an5 cd5 ct5), sl5⟩) (c5 : PySem.W.codeIn K cd5 "frozen" = true) (k5 : PySem.W.keepIn K (.ref f5) = true)
    (a6 : PySem.W.nsIn K mainGlobals "route_lanes" = some (some (.ref f6))) (l6 : K.lookup f6 = some ⟨oc6, od6, .func (PySem.W.fnOf "route_lanes" "route_lanes" (defArgs s_route_lanes) (defBody s_route_lanes) (defScope s_route_lanes) .none kv6 dc6 pm6 an6 cd6 ct6), sl6⟩) (c6 : PySem.W.codeIn K cd6 "route_lanes" = true) (k6 : PySem.W.keepIn K (.ref f6) = true)
    (a7 : PySem.W.nsIn K mainGlobals "is_number" = some (some (.ref f7))) (l7 : K.lookup f7 = some ⟨oc7, od7, .func (PySem.W.fnOf "is_number" "is_number" (defArgs s_is_number) (defBody s_is_number) (defScope s_is_number) .none kv7 dc7 pm7 an7 cd7 ct7), sl7⟩) (c7 : PySem.W.codeIn K cd7 "is_number" = true) (k7 : PySem.W.keepIn K (.ref f7) = true)
    (a8 : PySem.W.nsIn K mainGlobals "is_route" = some (some (.ref f8))) (l8 : K.lookup f8 = some ⟨oc8, od8, .func (PySem.W.fnOf "is_route" "is_route" (defArgs s_is_route) (defBody s_is_route) (defScope s_is_route) .none kv8 dc8 pm8 an8 cd8 ct8), sl8⟩) (c8 : PySem.W.codeIn K cd8 "is_route" = true) (k8 : PySem.W.keepIn K (.ref f8) = true)
    (a9 : PySem.W.nsIn K mainGlobals "checked_menu" = some (some (.ref f9))) (l9 : K.lookup f9 = some ⟨oc9, od9, .func (PySem.W.fnOf "checked_menu" "checked_menu" (defArgs s_checked_menu) (defBody s_checked_menu) (defScope s_checked_menu) .none kv9 dc9 pm9 an9 cd9 ct9), sl9⟩) (c9 : PySem.W.codeIn K cd9 "checked_menu" = true) (k9 : PySem.W.keepIn K (.ref f9) = true)
    (a10 : PySem.W.findIn K (.ref C0) "__init__" = some (some (.ref f10))) (ya10 : PySem.W.makesIn K C0 = true) (yb10 : PySem.W.isFn K (.ref f10) = true) (yc10 : PySem.W.keepIn K (.ref C0) = true)
    (l10 : K.lookup f10 = some ⟨oc10, od10, .func (PySem.W.fnOf "__init__" "Menu.__init__" (defArgs s_Menu_init) (defBody s_Menu_init) (defScope s_Menu_init) .none kv10 dc10 pm10 an10 cd10 ct10), sl10⟩) (c10 : PySem.W.codeIn K cd10 "Menu.__init__" = true) (k10 : PySem.W.keepIn K (.ref f10) = true)
    (a11 : PySem.W.nsIn K mainGlobals "_law_lanes" = some (some (.ref f11))) (l11 : K.lookup f11 = some ⟨oc11, od11, .func (PySem.W.fnOf "_law_lanes" "_law_lanes" (defArgs s_law_lanes) (defBody s_law_lanes) (defScope s_law_lanes) .none kv11 dc11 pm11 an11 cd11 ct11), sl11⟩) (c11 : PySem.W.codeIn K cd11 "_law_lanes" = true) (k11 : PySem.W.keepIn K (.ref f11) = true)
    (a12 : PySem.W.nsIn K mainGlobals "_law_places" = some (some (.ref f12))) (l12 : K.lookup f12 = some ⟨oc12, od12, .func (PySem.W.fnOf "_law_places" "_law_places" (defArgs s_law_places) (defBody s_law_places) (defScope s_law_places) .none kv12 dc12 pm12 an12 cd12 ct12), sl12⟩) (c12 : PySem.W.codeIn K cd12 "_law_places" = true) (k12 : PySem.W.keepIn K (.ref f12) = true)
    (a13 : PySem.W.nsIn K mainGlobals "_law_whole" = some (some (.ref f13))) (l13 : K.lookup f13 = some ⟨oc13, od13, .func (PySem.W.fnOf "_law_whole" "_law_whole" (defArgs s_law_whole) (defBody s_law_whole) (defScope s_law_whole) .none kv13 dc13 pm13 an13 cd13 ct13), sl13⟩) (c13 : PySem.W.codeIn K cd13 "_law_whole" = true) (k13 : PySem.W.keepIn K (.ref f13) = true)
    (a14 : PySem.W.nsIn K mainGlobals "_law_same" = some (some (.ref f14))) (l14 : K.lookup f14 = some ⟨oc14, od14, .func (PySem.W.fnOf "_law_same" "_law_same" (defArgs s_law_same) (defBody s_law_same) (defScope s_law_same) .none kv14 dc14 pm14 an14 cd14 ct14), sl14⟩) (c14 : PySem.W.codeIn K cd14 "_law_same" = true) (k14 : PySem.W.keepIn K (.ref f14) = true)
    (a15 : PySem.W.nsIn K mainGlobals "_law_cell" = some (some (.ref f15))) (l15 : K.lookup f15 = some ⟨oc15, od15, .func (PySem.W.fnOf "_law_cell" "_law_cell" (defArgs s_law_cell) (defBody s_law_cell) (defScope s_law_cell) .none kv15 dc15 pm15 an15 cd15 ct15), sl15⟩) (c15 : PySem.W.codeIn K cd15 "_law_cell" = true) (k15 : PySem.W.keepIn K (.ref f15) = true)
    (a16 : PySem.W.nsIn K mainGlobals "is_link" = some (some (.ref f16))) (l16 : K.lookup f16 = some ⟨oc16, od16, .func (PySem.W.fnOf "is_link" "is_link" (defArgs s_is_link) (defBody s_is_link) (defScope s_is_link) .none kv16 dc16 pm16 an16 cd16 ct16), sl16⟩) (c16 : PySem.W.codeIn K cd16 "is_link" = true) (k16 : PySem.W.keepIn K (.ref f16) = true)
    (a17 : PySem.W.nsIn K mainGlobals "checked_links" = some (some (.ref f17))) (l17 : K.lookup f17 = some ⟨oc17, od17, .func (PySem.W.fnOf "checked_links" "checked_links" (defArgs s_checked_links) (defBody s_checked_links) (defScope s_checked_links) .none kv17 dc17 pm17 an17 cd17 ct17), sl17⟩) (c17 : PySem.W.codeIn K cd17 "checked_links" = true) (k17 : PySem.W.keepIn K (.ref f17) = true)
    (a18 : PySem.W.nsIn K mainGlobals "near_nodes" = some (some (.ref f18))) (l18 : K.lookup f18 = some ⟨oc18, od18, .func (PySem.W.fnOf "near_nodes" "near_nodes" (defArgs s_near_nodes) (defBody s_near_nodes) (defScope s_near_nodes) .none kv18 dc18 pm18 an18 cd18 ct18), sl18⟩) (c18 : PySem.W.codeIn K cd18 "near_nodes" = true) (k18 : PySem.W.keepIn K (.ref f18) = true)
    (a19 : PySem.W.nsIn K mainGlobals "lanes_of" = some (some (.ref f19))) (l19 : K.lookup f19 = some ⟨oc19, od19, .func (PySem.W.fnOf "lanes_of" "lanes_of" (defArgs s_lanes_of) (defBody s_lanes_of) (defScope s_lanes_of) .none kv19 dc19 pm19 an19 cd19 ct19), sl19⟩) (c19 : PySem.W.codeIn K cd19 "lanes_of" = true) (k19 : PySem.W.keepIn K (.ref f19) = true)
    (a20 : PySem.W.nsIn K mainGlobals "reached" = some (some (.ref f20))) (l20 : K.lookup f20 = some ⟨oc20, od20, .func (PySem.W.fnOf "reached" "reached" (defArgs s_reached) (defBody s_reached) (defScope s_reached) .none kv20 dc20 pm20 an20 cd20 ct20), sl20⟩) (c20 : PySem.W.codeIn K cd20 "reached" = true) (k20 : PySem.W.keepIn K (.ref f20) = true)
    (a21 : PySem.W.findIn K (.ref C1) "__init__" = some (some (.ref f21))) (ya21 : PySem.W.makesIn K C1 = true) (yb21 : PySem.W.isFn K (.ref f21) = true) (yc21 : PySem.W.keepIn K (.ref C1) = true)
    (l21 : K.lookup f21 = some ⟨oc21, od21, .func (PySem.W.fnOf "__init__" "Net.__init__" (defArgs s_Net_init) (defBody s_Net_init) (defScope s_Net_init) .none kv21 dc21 pm21 an21 cd21 ct21), sl21⟩) (c21 : PySem.W.codeIn K cd21 "Net.__init__" = true) (k21 : PySem.W.keepIn K (.ref f21) = true)
    (a22 : PySem.W.nsIn K mainGlobals "_law_gcd" = some (some (.ref f22))) (l22 : K.lookup f22 = some ⟨oc22, od22, .func (PySem.W.fnOf "_law_gcd" "_law_gcd" (defArgs s_law_gcd) (defBody s_law_gcd) (defScope s_law_gcd) .none kv22 dc22 pm22 an22 cd22 ct22), sl22⟩) (c22 : PySem.W.codeIn K cd22 "_law_gcd" = true) (k22 : PySem.W.keepIn K (.ref f22) = true)
    (a23 : PySem.W.nsIn K mainGlobals "_law_fraction" = some (some (.ref f23))) (l23 : K.lookup f23 = some ⟨oc23, od23, .func (PySem.W.fnOf "_law_fraction" "_law_fraction" (defArgs s_law_fraction) (defBody s_law_fraction) (defScope s_law_fraction) .none kv23 dc23 pm23 an23 cd23 ct23), sl23⟩) (c23 : PySem.W.codeIn K cd23 "_law_fraction" = true) (k23 : PySem.W.keepIn K (.ref f23) = true)
    (a24 : PySem.W.nsIn K mainGlobals "pairs_of" = some (some (.ref f24))) (l24 : K.lookup f24 = some ⟨oc24, od24, .func (PySem.W.fnOf "pairs_of" "pairs_of" (defArgs s_pairs_of) (defBody s_pairs_of) (defScope s_pairs_of) .none kv24 dc24 pm24 an24 cd24 ct24), sl24⟩) (c24 : PySem.W.codeIn K cd24 "pairs_of" = true) (k24 : PySem.W.keepIn K (.ref f24) = true)
    (a25 : PySem.W.nsIn K mainGlobals "ratio" = some (some (.ref f25))) (l25 : K.lookup f25 = some ⟨oc25, od25, .func (PySem.W.fnOf "ratio" "ratio" (defArgs s_ratio) (defBody s_ratio) (defScope s_ratio) .none kv25 dc25 pm25 an25 cd25 ct25), sl25⟩) (c25 : PySem.W.codeIn K cd25 "ratio" = true) (k25 : PySem.W.keepIn K (.ref f25) = true)
    (a26 : PySem.W.nsIn K mainGlobals "added" = some (some (.ref f26))) (l26 : K.lookup f26 = some ⟨oc26, od26, .func (PySem.W.fnOf "added" "added" (defArgs s_added) (defBody s_added) (defScope s_added) .none kv26 dc26 pm26 an26 cd26 ct26), sl26⟩) (c26 : PySem.W.codeIn K cd26 "added" = true) (k26 : PySem.W.keepIn K (.ref f26) = true)
    (a27 : PySem.W.nsIn K mainGlobals "fraction_sum" = some (some (.ref f27))) (l27 : K.lookup f27 = some ⟨oc27, od27, .func (PySem.W.fnOf "fraction_sum" "fraction_sum" (defArgs s_fraction_sum) (defBody s_fraction_sum) (defScope s_fraction_sum) .none kv27 dc27 pm27 an27 cd27 ct27), sl27⟩) (c27 : PySem.W.codeIn K cd27 "fraction_sum" = true) (k27 : PySem.W.keepIn K (.ref f27) = true)
    (a28 : PySem.W.nsIn K mainGlobals "compare" = some (some (.ref f28))) (l28 : K.lookup f28 = some ⟨oc28, od28, .func (PySem.W.fnOf "compare" "compare" (defArgs s_compare) (defBody s_compare) (defScope s_compare) .none kv28 dc28 pm28 an28 cd28 ct28), sl28⟩) (c28 : PySem.W.codeIn K cd28 "compare" = true) (k28 : PySem.W.keepIn K (.ref f28) = true)
    (a29 : PySem.W.nsIn K mainGlobals "least_of" = some (some (.ref f29))) (l29 : K.lookup f29 = some ⟨oc29, od29, .func (PySem.W.fnOf "least_of" "least_of" (defArgs s_least_of) (defBody s_least_of) (defScope s_least_of) .none kv29 dc29 pm29 an29 cd29 ct29), sl29⟩) (c29 : PySem.W.codeIn K cd29 "least_of" = true) (k29 : PySem.W.keepIn K (.ref f29) = true)
    (a30 : PySem.W.nsIn K mainGlobals "passes" = some (some (.ref f30))) (l30 : K.lookup f30 = some ⟨oc30, od30, .func (PySem.W.fnOf "passes" "passes" (defArgs s_passes) (defBody s_passes) (defScope s_passes) .none kv30 dc30 pm30 an30 cd30 ct30), sl30⟩) (c30 : PySem.W.codeIn K cd30 "passes" = true) (k30 : PySem.W.keepIn K (.ref f30) = true)
    (a31 : PySem.W.nsIn K mainGlobals "route_worth" = some (some (.ref f31))) (l31 : K.lookup f31 = some ⟨oc31, od31, .func (PySem.W.fnOf "route_worth" "route_worth" (defArgs s_route_worth) (defBody s_route_worth) (defScope s_route_worth) .none kv31 dc31 pm31 an31 cd31 ct31), sl31⟩) (c31 : PySem.W.codeIn K cd31 "route_worth" = true) (k31 : PySem.W.keepIn K (.ref f31) = true)
    (a32 : PySem.W.nsIn K mainGlobals "mix_worth" = some (some (.ref f32))) (l32 : K.lookup f32 = some ⟨oc32, od32, .func (PySem.W.fnOf "mix_worth" "mix_worth" (defArgs s_mix_worth) (defBody s_mix_worth) (defScope s_mix_worth) .none kv32 dc32 pm32 an32 cd32 ct32), sl32⟩) (c32 : PySem.W.codeIn K cd32 "mix_worth" = true) (k32 : PySem.W.keepIn K (.ref f32) = true)
    (a33 : PySem.W.nsIn K mainGlobals "_law_day" = some (some (.ref f33))) (l33 : K.lookup f33 = some ⟨oc33, od33, .func (PySem.W.fnOf "_law_day" "_law_day" (defArgs s_law_day) (defBody s_law_day) (defScope s_law_day) .none kv33 dc33 pm33 an33 cd33 ct33), sl33⟩) (c33 : PySem.W.codeIn K cd33 "_law_day" = true) (k33 : PySem.W.keepIn K (.ref f33) = true)
    (a34 : PySem.W.nsIn K mainGlobals "_law_added" = some (some (.ref f34))) (l34 : K.lookup f34 = some ⟨oc34, od34, .func (PySem.W.fnOf "_law_added" "_law_added" (defArgs s_law_added) (defBody s_law_added) (defScope s_law_added) .none kv34 dc34 pm34 an34 cd34 ct34), sl34⟩) (c34 : PySem.W.codeIn K cd34 "_law_added" = true) (k34 : PySem.W.keepIn K (.ref f34) = true)
    (a35 : PySem.W.nsIn K mainGlobals "_law_at_most" = some (some (.ref f35))) (l35 : K.lookup f35 = some ⟨oc35, od35, .func (PySem.W.fnOf "_law_at_most" "_law_at_most" (defArgs s_law_at_most) (defBody s_law_at_most) (defScope s_law_at_most) .none kv35 dc35 pm35 an35 cd35 ct35), sl35⟩) (c35 : PySem.W.codeIn K cd35 "_law_at_most" = true) (k35 : PySem.W.keepIn K (.ref f35) = true)
    (a36 : PySem.W.nsIn K mainGlobals "_law_passes" = some (some (.ref f36))) (l36 : K.lookup f36 = some ⟨oc36, od36, .func (PySem.W.fnOf "_law_passes" "_law_passes" (defArgs s_law_passes) (defBody s_law_passes) (defScope s_law_passes) .none kv36 dc36 pm36 an36 cd36 ct36), sl36⟩) (c36 : PySem.W.codeIn K cd36 "_law_passes" = true) (k36 : PySem.W.keepIn K (.ref f36) = true)
    (a37 : PySem.W.nsIn K mainGlobals "_law_mix_worth" = some (some (.ref f37))) (l37 : K.lookup f37 = some ⟨oc37, od37, .func (PySem.W.fnOf "_law_mix_worth" "_law_mix_worth" (defArgs s_law_mix_worth) (defBody s_law_mix_worth) (defScope s_law_mix_worth) .none kv37 dc37 pm37 an37 cd37 ct37), sl37⟩) (c37 : PySem.W.codeIn K cd37 "_law_mix_worth" = true) (k37 : PySem.W.keepIn K (.ref f37) = true)
    (a38 : PySem.W.nsIn K mainGlobals "law" = some (some (.ref f38))) (l38 : K.lookup f38 = some ⟨oc38, od38, .func (PySem.W.fnOf "law" "law" (defArgs s_law) (defBody s_law) (defScope s_law) .none kv38 dc38 pm38 an38 cd38 ct38), sl38⟩) (c38 : PySem.W.codeIn K cd38 "law" = true) (k38 : PySem.W.keepIn K (.ref f38) = true)
    {E0 E1 E2 E3 E4 : Addr} {Ef0 Ex0 Ef1 Ex1 Ef2 Ex2 Ef3 Ex3 : Addr}
    (ea0 : PySem.W.nsIn K mainGlobals "BadRoute" = some (some (.ref E0)))
    {en0 eq0 : Str} {eb0 em0 : List Value} {esn0 : _} {esu0 : _} {eab0 : _} {eco0 : _} {edd0 : _} {ek00 : _} {ek10 : _} {ek20 : _} {ek30 : _} {ek50 : _}
    (el0 : K.lookup E0 = some (excClassObj en0 eq0 E0 Ex0 eb0 em0 true esn0 esu0 eab0 eco0 edd0 ek00 ek10 ek20 ek30 ek50 "ValueError.__new__")) (ev0 : PySem.HandSPX.refsVE em0 = true) (es0 : PySem.W.findIn K (.ref E0) "__setattr__" = some (some (.builtin "object.__setattr__"))) (et0 : PySem.W.subIn K (.ref E0) (.type "BaseException") = some true) (ey0 : PySem.W.typeIn K (.ref E0) = some (.type "type")) (ek0 : PySem.W.keepIn K (.ref E0) = true)
    (ei0 : PySem.W.findIn K (.ref E0) "__init__" = some (some (.ref Ef0))) (ej0 : PySem.W.typeIn K (.ref Ef0) = some (.type "function"))
    {eoc0 ekv0 edc0 epm0 ecd0 ect0 : Value} {eod0 ean0 : Option Addr} {esl0 : Array (Option Value)} (eu0 : K.lookup Ef0 = some ⟨eoc0, eod0, .func (PySem.W.fnOf "__init__" "BadRoute.__init__" (defArgs s_BadRoute_init) (defBody s_BadRoute_init) (defScope s_BadRoute_init) .none ekv0 edc0 epm0 ean0 ecd0 ect0), esl0⟩) (ew0 : PySem.W.codeIn K ecd0 "BadRoute.__init__" = true) (ez0 : PySem.W.keepIn K (.ref Ef0) = true)
    (eg0_sender : PySem.W.findIn K (.ref E0) "sender" = some none)
    (eg0_goal : PySem.W.findIn K (.ref E0) "goal" = some none)
    (ea1 : PySem.W.nsIn K mainGlobals "BadLink" = some (some (.ref E1)))
    {en1 eq1 : Str} {eb1 em1 : List Value} {esn1 : _} {esu1 : _} {eab1 : _} {eco1 : _} {edd1 : _} {ek01 : _} {ek11 : _} {ek21 : _} {ek31 : _} {ek51 : _}
    (el1 : K.lookup E1 = some (excClassObj en1 eq1 E1 Ex1 eb1 em1 true esn1 esu1 eab1 eco1 edd1 ek01 ek11 ek21 ek31 ek51 "ValueError.__new__")) (ev1 : PySem.HandSPX.refsVE em1 = true) (es1 : PySem.W.findIn K (.ref E1) "__setattr__" = some (some (.builtin "object.__setattr__"))) (et1 : PySem.W.subIn K (.ref E1) (.type "BaseException") = some true) (ey1 : PySem.W.typeIn K (.ref E1) = some (.type "type")) (ek1 : PySem.W.keepIn K (.ref E1) = true)
    (ei1 : PySem.W.findIn K (.ref E1) "__init__" = some (some (.ref Ef1))) (ej1 : PySem.W.typeIn K (.ref Ef1) = some (.type "function"))
    {eoc1 ekv1 edc1 epm1 ecd1 ect1 : Value} {eod1 ean1 : Option Addr} {esl1 : Array (Option Value)} (eu1 : K.lookup Ef1 = some ⟨eoc1, eod1, .func (PySem.W.fnOf "__init__" "BadLink.__init__" (defArgs s_BadLink_init) (defBody s_BadLink_init) (defScope s_BadLink_init) .none ekv1 edc1 epm1 ean1 ecd1 ect1), esl1⟩) (ew1 : PySem.W.codeIn K ecd1 "BadLink.__init__" = true) (ez1 : PySem.W.keepIn K (.ref Ef1) = true)
    (eg1_index : PySem.W.findIn K (.ref E1) "index" = some none)
    (ea2 : PySem.W.nsIn K mainGlobals "BadSize" = some (some (.ref E2)))
    {en2 eq2 : Str} {eb2 em2 : List Value} {esn2 : _} {esu2 : _} {eab2 : _} {eco2 : _} {edd2 : _} {ek02 : _} {ek12 : _} {ek22 : _} {ek32 : _} {ek52 : _}
    (el2 : K.lookup E2 = some (excClassObj en2 eq2 E2 Ex2 eb2 em2 true esn2 esu2 eab2 eco2 edd2 ek02 ek12 ek22 ek32 ek52 "ValueError.__new__")) (ev2 : PySem.HandSPX.refsVE em2 = true) (es2 : PySem.W.findIn K (.ref E2) "__setattr__" = some (some (.builtin "object.__setattr__"))) (et2 : PySem.W.subIn K (.ref E2) (.type "BaseException") = some true) (ey2 : PySem.W.typeIn K (.ref E2) = some (.type "type")) (ek2 : PySem.W.keepIn K (.ref E2) = true)
    (ei2 : PySem.W.findIn K (.ref E2) "__init__" = some (some (.ref Ef2))) (ej2 : PySem.W.typeIn K (.ref Ef2) = some (.type "function"))
    {eoc2 ekv2 edc2 epm2 ecd2 ect2 : Value} {eod2 ean2 : Option Addr} {esl2 : Array (Option Value)} (eu2 : K.lookup Ef2 = some ⟨eoc2, eod2, .func (PySem.W.fnOf "__init__" "BadSize.__init__" (defArgs s_BadSize_init) (defBody s_BadSize_init) (defScope s_BadSize_init) .none ekv2 edc2 epm2 ean2 ecd2 ect2), esl2⟩) (ew2 : PySem.W.codeIn K ecd2 "BadSize.__init__" = true) (ez2 : PySem.W.keepIn K (.ref Ef2) = true)
    (eg2_size : PySem.W.findIn K (.ref E2) "size" = some none)
    (ea3 : PySem.W.nsIn K mainGlobals "NotConnected" = some (some (.ref E3)))
    {en3 eq3 : Str} {eb3 em3 : List Value} {esn3 : _} {esu3 : _} {eab3 : _} {eco3 : _} {edd3 : _} {ek03 : _} {ek13 : _} {ek23 : _} {ek33 : _} {ek53 : _}
    (el3 : K.lookup E3 = some (excClassObj en3 eq3 E3 Ex3 eb3 em3 true esn3 esu3 eab3 eco3 edd3 ek03 ek13 ek23 ek33 ek53 "ValueError.__new__")) (ev3 : PySem.HandSPX.refsVE em3 = true) (es3 : PySem.W.findIn K (.ref E3) "__setattr__" = some (some (.builtin "object.__setattr__"))) (et3 : PySem.W.subIn K (.ref E3) (.type "BaseException") = some true) (ey3 : PySem.W.typeIn K (.ref E3) = some (.type "type")) (ek3 : PySem.W.keepIn K (.ref E3) = true)
    (ei3 : PySem.W.findIn K (.ref E3) "__init__" = some (some (.ref Ef3))) (ej3 : PySem.W.typeIn K (.ref Ef3) = some (.type "function"))
    {eoc3 ekv3 edc3 epm3 ecd3 ect3 : Value} {eod3 ean3 : Option Addr} {esl3 : Array (Option Value)} (eu3 : K.lookup Ef3 = some ⟨eoc3, eod3, .func (PySem.W.fnOf "__init__" "NotConnected.__init__" (defArgs s_NotConnected_init) (defBody s_NotConnected_init) (defScope s_NotConnected_init) .none ekv3 edc3 epm3 ean3 ecd3 ect3), esl3⟩) (ew3 : PySem.W.codeIn K ecd3 "NotConnected.__init__" = true) (ez3 : PySem.W.keepIn K (.ref Ef3) = true)
    (eg3_node : PySem.W.findIn K (.ref E3) "node" = some none)
    (ea4 : PySem.W.nsIn K mainGlobals "ZeroBottom" = some (some (.ref E4)))
    (ex4 : PySem.W.excIn K E4 veT "ValueError.__new__" = true) (ek4 : PySem.W.keepIn K (.ref E4) = true) (et4 : PySem.W.subIn K (.ref E4) (.type "BaseException") = some true) (ey4 : PySem.W.typeIn K (.ref E4) = some (.type "type"))
    {tk_MOST_NODES : Tok} (gc_MOST_NODES : PySem.W.nsIn K mainGlobals "MOST_NODES" = some (some (.int 24 tk_MOST_NODES)))
    (z0 : PySem.W.nsIn K mainGlobals "abs" = some none)
    (z1 : PySem.W.nsIn K mainGlobals "all" = some none)
    (z2 : PySem.W.nsIn K mainGlobals "bool" = some none)
    (z3 : PySem.W.nsIn K mainGlobals "enumerate" = some none)
    (z4 : PySem.W.nsIn K mainGlobals "int" = some none)
    (z5 : PySem.W.nsIn K mainGlobals "isinstance" = some none)
    (z6 : PySem.W.nsIn K mainGlobals "len" = some none)
    (z7 : PySem.W.nsIn K mainGlobals "list" = some none)
    (z8 : PySem.W.nsIn K mainGlobals "max" = some none)
    (z9 : PySem.W.nsIn K mainGlobals "min" = some none)
    (z10 : PySem.W.nsIn K mainGlobals "range" = some none)
    (z11 : PySem.W.nsIn K mainGlobals "set" = some none)
    (z12 : PySem.W.nsIn K mainGlobals "sorted" = some none)
    (z13 : PySem.W.nsIn K mainGlobals "str" = some none)
    (z14 : PySem.W.nsIn K mainGlobals "tuple" = some none)
    (gg : PySem.W.nsIn K mainGlobals "gcd" = some (some (.builtin "math.gcd")))
    : ∃ fd : FuncData, (∀ (s : Shared) (u : Value), BindsTo s fd ⟨[u], []⟩ [("script", u)]) ∧ ∀ base : Heap, K.In base → base.Ns mainGlobals mg → FnOk P w K mg base (L2.CX P w) 11 fa fd ["script"] (spLaw K) := by
  have e := hfa.symm.trans (PySem.W.mg_of X G a38)
  cases e
  have T : Txt K mg :=
    { d_law_net := defAt_mk X G a0 l0 c0 k0 fun _ _ _ _ _ _ us hl => match us, hl with | [_, _], _ => rfl
      d_law_near := defAt_mk X G a1 l1 c1 k1 fun _ _ _ _ _ _ us hl => match us, hl with | [_, _], _ => rfl
      d_law_digits := defAt_mk X G a2 l2 c2 k2 fun _ _ _ _ _ _ us hl => match us, hl with | [_, _], _ => rfl
      d_law_all_routes := defAt_mk X G a3 l3 c3 k3 fun _ _ _ _ _ _ us hl => match us, hl with | [_, _, _], _ => rfl
      d_law_menu := defAt_mk X G a4 l4 c4 k4 fun _ _ _ _ _ _ us hl => match us, hl with | [_, _, _], _ => rfl
      d_frozen := defAt_mk X G a5 l5 c5 k5 fun _ _ _ _ _ _ us hl => match us, hl with | [_], _ => rfl
      d_route_lanes := defAt_mk X G a6 l6 c6 k6 fun _ _ _ _ _ _ us hl => match us, hl with | [_], _ => rfl
      d_is_number := defAt_mk X G a7 l7 c7 k7 fun _ _ _ _ _ _ us hl => match us, hl with | [_], _ => rfl
      d_is_route := defAt_mk X G a8 l8 c8 k8 fun _ _ _ _ _ _ us hl => match us, hl with | [_, _, _, _], _ => rfl
      d_checked_menu := defAt_mk X G a9 l9 c9 k9 fun _ _ _ _ _ _ us hl => match us, hl with | [_, _], _ => rfl
      d_Menu_init := initAt_mk X G xc0 ya10 a10 yb10 yc10 l10 c10 k10 fun _ _ _ _ _ _ us hl => match us, hl with | [_, _, _], _ => rfl
      d_law_lanes := defAt_mk X G a11 l11 c11 k11 fun _ _ _ _ _ _ us hl => match us, hl with | [_], _ => rfl
      d_law_places := defAt_mk X G a12 l12 c12 k12 fun _ _ _ _ _ _ us hl => match us, hl with | [_], _ => rfl
      d_law_whole := defAt_mk X G a13 l13 c13 k13 fun _ _ _ _ _ _ us hl => match us, hl with | [_], _ => rfl
      d_law_same := defAt_mk X G a14 l14 c14 k14 fun _ _ _ _ _ _ us hl => match us, hl with | [_, _], _ => rfl
      d_law_cell := defAt_mk X G a15 l15 c15 k15 fun _ _ _ _ _ _ us hl => match us, hl with | [_, _], _ => rfl
      d_is_link := defAt_mk X G a16 l16 c16 k16 fun _ _ _ _ _ _ us hl => match us, hl with | [_, _], _ => rfl
      d_checked_links := defAt_mk X G a17 l17 c17 k17 fun _ _ _ _ _ _ us hl => match us, hl with | [_, _], _ => rfl
      d_near_nodes := defAt_mk X G a18 l18 c18 k18 fun _ _ _ _ _ _ us hl => match us, hl with | [_, _], _ => rfl
      d_lanes_of := defAt_mk X G a19 l19 c19 k19 fun _ _ _ _ _ _ us hl => match us, hl with | [_], _ => rfl
      d_reached := defAt_mk X G a20 l20 c20 k20 fun _ _ _ _ _ _ us hl => match us, hl with | [_, _, _], _ => rfl
      d_Net_init := initAt_mk X G xc1 ya21 a21 yb21 yc21 l21 c21 k21 fun _ _ _ _ _ _ us hl => match us, hl with | [_, _, _], _ => rfl
      d_law_gcd := defAt_mk X G a22 l22 c22 k22 fun _ _ _ _ _ _ us hl => match us, hl with | [_, _], _ => rfl
      d_law_fraction := defAt_mk X G a23 l23 c23 k23 fun _ _ _ _ _ _ us hl => match us, hl with | [_, _], _ => rfl
      d_pairs_of := defAt_mk X G a24 l24 c24 k24 fun _ _ _ _ _ _ us hl => match us, hl with | [_], _ => rfl
      d_ratio := defAt_mk X G a25 l25 c25 k25 fun _ _ _ _ _ _ us hl => match us, hl with | [_, _], _ => rfl
      d_added := defAt_mk X G a26 l26 c26 k26 fun _ _ _ _ _ _ us hl => match us, hl with | [_, _], _ => rfl
      d_fraction_sum := defAt_mk X G a27 l27 c27 k27 fun _ _ _ _ _ _ us hl => match us, hl with | [_], _ => rfl
      d_compare := defAt_mk X G a28 l28 c28 k28 fun _ _ _ _ _ _ us hl => match us, hl with | [_, _], _ => rfl
      d_least_of := defAt_mk X G a29 l29 c29 k29 fun _ _ _ _ _ _ us hl => match us, hl with | [_], _ => rfl
      d_passes := defAt_mk X G a30 l30 c30 k30 fun _ _ _ _ _ _ us hl => match us, hl with | [_, _], _ => rfl
      d_route_worth := defAt_mk X G a31 l31 c31 k31 fun _ _ _ _ _ _ us hl => match us, hl with | [_, _, _, _], _ => rfl
      d_mix_worth := defAt_mk X G a32 l32 c32 k32 fun _ _ _ _ _ _ us hl => match us, hl with | [_, _], _ => rfl
      d_law_day := defAt_mk X G a33 l33 c33 k33 fun _ _ _ _ _ _ us hl => match us, hl with | [_, _], _ => rfl
      d_law_added := defAt_mk X G a34 l34 c34 k34 fun _ _ _ _ _ _ us hl => match us, hl with | [_, _], _ => rfl
      d_law_at_most := defAt_mk X G a35 l35 c35 k35 fun _ _ _ _ _ _ us hl => match us, hl with | [_, _], _ => rfl
      d_law_passes := defAt_mk X G a36 l36 c36 k36 fun _ _ _ _ _ _ us hl => match us, hl with | [_, _], _ => rfl
      d_law_mix_worth := defAt_mk X G a37 l37 c37 k37 fun _ _ _ _ _ _ us hl => match us, hl with | [_, _], _ => rfl
      z_abs := PySem.W.mg_none_of X G z0
      z_all := PySem.W.mg_none_of X G z1
      z_bool := PySem.W.mg_none_of X G z2
      z_enumerate := PySem.W.mg_none_of X G z3
      z_int := PySem.W.mg_none_of X G z4
      z_isinstance := PySem.W.mg_none_of X G z5
      z_len := PySem.W.mg_none_of X G z6
      z_list := PySem.W.mg_none_of X G z7
      z_max := PySem.W.mg_none_of X G z8
      z_min := PySem.W.mg_none_of X G z9
      z_range := PySem.W.mg_none_of X G z10
      z_set := PySem.W.mg_none_of X G z11
      z_sorted := PySem.W.mg_none_of X G z12
      z_str := PySem.W.mg_none_of X G z13
      z_tuple := PySem.W.mg_none_of X G z14
      f_Menu_net := fldAt_mk X G xc0 (cls_mk xp0 xh0 xo0 xs0) xf_Menu_net
      f_Menu_rows := fldAt_mk X G xc0 (cls_mk xp0 xh0 xo0 xs0) xf_Menu_rows
      f_Net_lane_row := fldAt_mk X G xc1 (cls_mk xp1 xh1 xo1 xs1) xf_Net_lane_row
      f_Net_links := fldAt_mk X G xc1 (cls_mk xp1 xh1 xo1 xs1) xf_Net_links
      f_Net_near := fldAt_mk X G xc1 (cls_mk xp1 xh1 xo1 xs1) xf_Net_near
      f_Net_size := fldAt_mk X G xc1 (cls_mk xp1 xh1 xo1 xs1) xf_Net_size
      g_gcd := PySem.W.mg_of X G gg
      c_MOST_NODES := globI_mk (PySem.W.mg_of X G gc_MOST_NODES)
      e_BadRoute := errAt_mk X G ea0 el0 ev0 es0 et0 ey0 ek0 ei0 ej0 eu0 ew0 ez0 (fun _ _ _ _ _ _ us hl => match us, hl with | [_, _, _], _ => rfl) (errF eg0_sender (errF eg0_goal (fun g hg => nomatch hg)))
      e_BadLink := errAt_mk X G ea1 el1 ev1 es1 et1 ey1 ek1 ei1 ej1 eu1 ew1 ez1 (fun _ _ _ _ _ _ us hl => match us, hl with | [_, _], _ => rfl) (errF eg1_index (fun g hg => nomatch hg))
      e_BadSize := errAt_mk X G ea2 el2 ev2 es2 et2 ey2 ek2 ei2 ej2 eu2 ew2 ez2 (fun _ _ _ _ _ _ us hl => match us, hl with | [_, _], _ => rfl) (errF eg2_size (fun g hg => nomatch hg))
      e_NotConnected := errAt_mk X G ea3 el3 ev3 es3 et3 ey3 ek3 ei3 ej3 eu3 ew3 ez3 (fun _ _ _ _ _ _ us hl => match us, hl with | [_, _], _ => rfl) (errF eg3_node (fun g hg => nomatch hg))
      e0_ZeroBottom := err0_mk (PySem.W.mg_of X G ea4) ex4 ek4 et4 ey4 }
  exact ⟨_, fun s u => .of_eq rfl, fun base _ _ => law_imp (okf_law T (fun_mk (st := s_law) l38 c38 k38)) law_true⟩
end Kx
end
open PySem PySem.W PyProof.Rows
set_option maxRecDepth 100000 in
set_option maxHeartbeats 0 in
theorem PySem.Challenge.cw_nobadday_k70_hard_mixes_holds : PySem.Challenge.rw_nobadday_k70_hard_mixes.Holds := by
  w_on; o_law; k_head; (case hw => w_witness2)
  k_fill
  refine Da.walk_end (l := PySem.Challenge.rw_nobadday_k70_hard_mixes) (k := 11) rfl rfl ⟨rfl, by decide, by decide⟩ (fun w h Y => PySem.W.kIn_of Y) ?F
  case F =>
    intro w mg fa h KX G hmg
    refine' Kx.all_mk KX G hmg ?xc0 ?xp0 ?xh0 ?xo0 ?xs0 ?xc1 ?xp1 ?xh1 ?xo1 ?xs1 ?xf_Menu_net ?xf_Menu_rows ?xf_Net_lane_row ?xf_Net_links ?xf_Net_near ?xf_Net_size ?a0 ?l0 ?c0 ?k0 ?a1 ?l1 ?c1 ?k1 ?a2 ?l2 ?c2 ?k2 ?a3 ?l3 ?c3 ?k3 ?a4 ?l4 ?c4 ?k4 ?a5 ?l5 ?c5 ?k5 ?a6 ?l6 ?c6 ?k6 ?a7 ?l7 ?c7 ?k7 ?a8 ?l8 ?c8 ?k8 ?a9 ?l9 ?c9 ?k9 ?a10 ?ya10 ?yb10 ?yc10 ?l10 ?c10 ?k10 ?a11 ?l11 ?c11 ?k11 ?a12 ?l12 ?c12 ?k12 ?a13 ?l13 ?c13 ?k13 ?a14 ?l14 ?c14 ?k14 ?a15 ?l15 ?c15 ?k15 ?a16 ?l16 ?c16 ?k16 ?a17 ?l17 ?c17 ?k17 ?a18 ?l18 ?c18 ?k18 ?a19 ?l19 ?c19 ?k19 ?a20 ?l20 ?c20 ?k20 ?a21 ?ya21 ?yb21 ?yc21 ?l21 ?c21 ?k21 ?a22 ?l22 ?c22 ?k22 ?a23 ?l23 ?c23 ?k23 ?a24 ?l24 ?c24 ?k24 ?a25 ?l25 ?c25 ?k25 ?a26 ?l26 ?c26 ?k26 ?a27 ?l27 ?c27 ?k27 ?a28 ?l28 ?c28 ?k28 ?a29 ?l29 ?c29 ?k29 ?a30 ?l30 ?c30 ?k30 ?a31 ?l31 ?c31 ?k31 ?a32 ?l32 ?c32 ?k32 ?a33 ?l33 ?c33 ?k33 ?a34 ?l34 ?c34 ?k34 ?a35 ?l35 ?c35 ?k35 ?a36 ?l36 ?c36 ?k36 ?a37 ?l37 ?c37 ?k37 ?a38 ?l38 ?c38 ?k38 ?ea0 ?el0 ?ev0 ?es0 ?et0 ?ey0 ?ek0 ?ei0 ?ej0 ?eu0 ?ew0 ?ez0 ?eg0_sender ?eg0_goal ?ea1 ?el1 ?ev1 ?es1 ?et1 ?ey1 ?ek1 ?ei1 ?ej1 ?eu1 ?ew1 ?ez1 ?eg1_index ?ea2 ?el2 ?ev2 ?es2 ?et2 ?ey2 ?ek2 ?ei2 ?ej2 ?eu2 ?ew2 ?ez2 ?eg2_size ?ea3 ?el3 ?ev3 ?es3 ?et3 ?ey3 ?ek3 ?ei3 ?ej3 ?eu3 ?ew3 ?ez3 ?eg3_node ?ea4 ?ex4 ?ek4 ?et4 ?ey4 ?gc_MOST_NODES ?z0 ?z1 ?z2 ?z3 ?z4 ?z5 ?z6 ?z7 ?z8 ?z9 ?z10 ?z11 ?z12 ?z13 ?z14 ?gg
    (case xc0 => k_is); (case xp0 => k_is); (case xh0 => k_is); (case xo0 => k_is); (case xs0 => k_is); (case xc1 => k_is); (case xp1 => k_is); (case xh1 => k_is)
    (case xo1 => k_is); (case xs1 => k_is); (case xf_Menu_net => k_is); (case xf_Menu_rows => k_is); (case xf_Net_lane_row => k_is); (case xf_Net_links => k_is); (case xf_Net_near => k_is); (case xf_Net_size => k_is)
    (case a0 => k_is); (case l0 => k_is); (case c0 => k_is); (case k0 => k_is); (case a1 => k_is); (case l1 => k_is); (case c1 => k_is); (case k1 => k_is)
    (case a2 => k_is); (case l2 => k_is); (case c2 => k_is); (case k2 => k_is); (case a3 => k_is); (case l3 => k_is); (case c3 => k_is); (case k3 => k_is)
    (case a4 => k_is); (case l4 => k_is); (case c4 => k_is); (case k4 => k_is); (case a5 => k_is); (case l5 => k_is); (case c5 => k_is); (case k5 => k_is)
    (case a6 => k_is); (case l6 => k_is); (case c6 => k_is); (case k6 => k_is); (case a7 => k_is); (case l7 => k_is); (case c7 => k_is); (case k7 => k_is)
    (case a8 => k_is); (case l8 => k_is); (case c8 => k_is); (case k8 => k_is); (case a9 => k_is); (case l9 => k_is); (case c9 => k_is); (case k9 => k_is)
    (case a10 => k_is); (case ya10 => k_is); (case yb10 => k_is); (case yc10 => k_is); (case l10 => k_is); (case c10 => k_is); (case k10 => k_is); (case a11 => k_is)
    (case l11 => k_is); (case c11 => k_is); (case k11 => k_is); (case a12 => k_is); (case l12 => k_is); (case c12 => k_is); (case k12 => k_is); (case a13 => k_is)
    (case l13 => k_is); (case c13 => k_is); (case k13 => k_is); (case a14 => k_is); (case l14 => k_is); (case c14 => k_is); (case k14 => k_is); (case a15 => k_is)
    (case l15 => k_is); (case c15 => k_is); (case k15 => k_is); (case a16 => k_is); (case l16 => k_is); (case c16 => k_is); (case k16 => k_is); (case a17 => k_is)
    (case l17 => k_is); (case c17 => k_is); (case k17 => k_is); (case a18 => k_is); (case l18 => k_is); (case c18 => k_is); (case k18 => k_is); (case a19 => k_is)
    (case l19 => k_is); (case c19 => k_is); (case k19 => k_is); (case a20 => k_is); (case l20 => k_is); (case c20 => k_is); (case k20 => k_is); (case a21 => k_is)
    (case ya21 => k_is); (case yb21 => k_is); (case yc21 => k_is); (case l21 => k_is); (case c21 => k_is); (case k21 => k_is); (case a22 => k_is); (case l22 => k_is)
    (case c22 => k_is); (case k22 => k_is); (case a23 => k_is); (case l23 => k_is); (case c23 => k_is); (case k23 => k_is); (case a24 => k_is); (case l24 => k_is)
    (case c24 => k_is); (case k24 => k_is); (case a25 => k_is); (case l25 => k_is); (case c25 => k_is); (case k25 => k_is); (case a26 => k_is); (case l26 => k_is)
    (case c26 => k_is); (case k26 => k_is); (case a27 => k_is); (case l27 => k_is); (case c27 => k_is); (case k27 => k_is); (case a28 => k_is); (case l28 => k_is)
    (case c28 => k_is); (case k28 => k_is); (case a29 => k_is); (case l29 => k_is); (case c29 => k_is); (case k29 => k_is); (case a30 => k_is); (case l30 => k_is)
    (case c30 => k_is); (case k30 => k_is); (case a31 => k_is); (case l31 => k_is); (case c31 => k_is); (case k31 => k_is); (case a32 => k_is); (case l32 => k_is)
    (case c32 => k_is); (case k32 => k_is); (case a33 => k_is); (case l33 => k_is); (case c33 => k_is); (case k33 => k_is); (case a34 => k_is); (case l34 => k_is)
    (case c34 => k_is); (case k34 => k_is); (case a35 => k_is); (case l35 => k_is); (case c35 => k_is); (case k35 => k_is); (case a36 => k_is); (case l36 => k_is)
    (case c36 => k_is); (case k36 => k_is); (case a37 => k_is); (case l37 => k_is); (case c37 => k_is); (case k37 => k_is); (case a38 => k_is); (case l38 => k_is)
    (case c38 => k_is); (case k38 => k_is); (case ea0 => k_is); (case el0 => k_is); (case ev0 => kernel_rfl); (case es0 => k_is); (case et0 => k_is); (case ey0 => k_is)
    (case ek0 => k_is); (case ei0 => k_is); (case ej0 => k_is); (case eu0 => k_is); (case ew0 => k_is); (case ez0 => k_is); (case eg0_sender => k_is); (case eg0_goal => k_is)
    (case ea1 => k_is); (case el1 => k_is); (case ev1 => kernel_rfl); (case es1 => k_is); (case et1 => k_is); (case ey1 => k_is); (case ek1 => k_is); (case ei1 => k_is)
    (case ej1 => k_is); (case eu1 => k_is); (case ew1 => k_is); (case ez1 => k_is); (case eg1_index => k_is); (case ea2 => k_is); (case el2 => k_is); (case ev2 => kernel_rfl)
    (case es2 => k_is); (case et2 => k_is); (case ey2 => k_is); (case ek2 => k_is); (case ei2 => k_is); (case ej2 => k_is); (case eu2 => k_is); (case ew2 => k_is)
    (case ez2 => k_is); (case eg2_size => k_is); (case ea3 => k_is); (case el3 => k_is); (case ev3 => kernel_rfl); (case es3 => k_is); (case et3 => k_is); (case ey3 => k_is)
    (case ek3 => k_is); (case ei3 => k_is); (case ej3 => k_is); (case eu3 => k_is); (case ew3 => k_is); (case ez3 => k_is); (case eg3_node => k_is); (case ea4 => k_is)
    (case ex4 => kernel_rfl); (case ek4 => k_is); (case et4 => k_is); (case ey4 => k_is); (case gc_MOST_NODES => k_is); (case z0 => k_is); (case z1 => k_is); (case z2 => k_is)
    (case z3 => k_is); (case z4 => k_is); (case z5 => k_is); (case z6 => k_is); (case z7 => k_is); (case z8 => k_is); (case z9 => k_is); (case z10 => k_is)
    (case z11 => k_is); (case z12 => k_is); (case z13 => k_is); (case z14 => k_is); (case gg => k_is)
#print axioms PySem.Challenge.cw_nobadday_k70_hard_mixes_holds
