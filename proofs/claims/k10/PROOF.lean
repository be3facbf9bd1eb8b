import PyProof.Rows.All
import Wide.All
import OpenK.AllK
import Wide.FinOn
import KE.KStateDown
import HandS.ForMost
import HandS.Exc
import HandS.ExcOwn
import HandS.WordsExc
import HandS.TryOnly
import HandS.TryMany
import HandS.ExcInit
import HandS.ExcField
import HandS.Deep
import HandS.TupAny
import HandS.Conv
import HandS.FStr
import HandS.Small
import HandS.Flow
import HandS.Style
import HandS.Steps
import HandS.IsInst
import HandS.Defaults
import HandS.Property
import HandS.MakeKw
import HandS.Wide
import HandS.Zip
import HandS.Strs
import HandS.Sort
import HandS.RaiseMore
import HandS.Codes
import HandS.RevTup
import KE.GoesMore
import HandS.HeadEnd
import HandS.Flt
import HandS.ClsMeth
import HandS.SortInts
import HandS.Words
import HandS.Head0
import HandS.Head1
import HandS.Head2
import HandS.HeadHook1
import HandS.HeadHook2
import PySem.Challenge.RW_bitplaces_k10_whole_towns_between
set_option Elab.async false
set_option linter.all false
set_option maxRecDepth 100000
set_option maxHeartbeats 2000000
/-! The data layer, first part: data, how it lies in a heap, states, readings. -/
namespace DL
open PySem PySem.Spec PyProof.Rows L2

/-! ### data -/
inductive D where
  | non | bl (b : Bool) | int (i : Int) | str (s : Str) | tup (xs : List D) | lst (xs : List D)
  | scr (ns : List Int) | dct (kvs : List (Key × D)) | ins (C : Addr) (fs : List (Str × D))
  deriving Inhabited

abbrev Fg := PySem.W.Frag

/-- a tuple all of whose object is known to be plain -/
def SqX (K : Fg) (G : Hp) (a : Addr) (vs : List V) : Prop := (∃ o, G a = some (.frz o (.tup vs)) ∧ o.dict = none) ∨
  ∃ (o : Obj) (its : Array Value) (n : Nat), K.lookup a = some o ∧ o.cls = .type "tuple" ∧ o.dict = none ∧ o.data = .seq its n ∧ its.size ≤ sizeLine ∧ Vals vs its.toList
theorem SqX.t {K : Fg} {G : Hp} {a : Addr} {vs : List V} (h : SqX K G a vs) : SqT K G a vs := by
  rcases h with ⟨o, h, _⟩ | ⟨o, its, n, h1, h2, h3, h4, h5, h6⟩
  · exact .inl (.inr ⟨o, h⟩)
  · exact .inr ⟨o, its, n, h1, h2, h4, h5, h6⟩
theorem SqX.mono {K : Fg} {G G' : Hp} {a : Addr} {vs : List V} (e : Same G G') (h : SqX K G a vs) : SqX K G' a vs := by
  rcases h with ⟨o, h, d⟩ | h
  · exact .inl ⟨o, e _ _ h, d⟩
  · exact .inr h
theorem SqX.plain {X : Cx} {pins : List (Addr × Obj)} {σ : L2.St} {H : Hp} {s : Shared} {a : Addr} {vs : List V} (I : Inv X pins σ H s) (h : SqX X.K H a vs) : ∃ o, s.heap.get? a = some o ∧ o.dict = none ∧ o.cls = .type "tuple" := by
  rcases h with ⟨o, h, d⟩ | ⟨o, its, n, h1, h2, h3, _⟩
  · obtain ⟨e, _, its, _, o', e', hc, _⟩ := I.hok a _ h
    rw [e] at e'; cases e'
    exact ⟨o, e, d, hc⟩
  · exact ⟨o, I.kIn a o h1, h3, h2⟩

mutual
inductive Rp (K : Fg) (G : Hp) : V → D → Prop
  | non : Rp K G .non .non
  | bl (b : Bool) : Rp K G (.bl b) (.bl b)
  | int (i : Int) : Rp K G (.int i) (.int i)
  | str (s : Str) : Rp K G (.str s) (.str s)
  | tup {a : Addr} {vs : List V} {ds : List D} : SqX K G a vs → RpA K G vs ds → Rp K G (.ref a) (.tup ds)
  | lst {a : Addr} {vs : List V} {ds : List D} : G a = some (.lst vs) → RpA K G vs ds → Rp K G (.ref a) (.lst ds)
  | scr {a : Addr} {ns : List Int} : SqL K G a (ns.map V.int) → Rp K G (.ref a) (.scr ns)
  | dct {a : Addr} {kvs : List (Key × V)} {kds : List (Key × D)} : G a = some (.dK kvs) → RpK K G kvs kds → Rp K G (.ref a) (.dct kds)
  | ins {a C dx : Addr} {fs : List (Str × V)} {ds : List (Str × D)} : G a = some (.ins C dx fs) → G dx = some (.own a) → RpF K G fs ds → Rp K G (.ref a) (.ins C ds)
inductive RpA (K : Fg) (G : Hp) : List V → List D → Prop
  | nil : RpA K G [] []
  | cons {v : V} {d : D} {vs : List V} {ds : List D} : Rp K G v d → RpA K G vs ds → RpA K G (v :: vs) (d :: ds)
inductive RpK (K : Fg) (G : Hp) : List (Key × V) → List (Key × D) → Prop
  | nil : RpK K G [] []
  | cons {k : Key} {v : V} {d : D} {vs : List (Key × V)} {ds : List (Key × D)} : Rp K G v d → RpK K G vs ds → RpK K G ((k, v) :: vs) ((k, d) :: ds)
inductive RpF (K : Fg) (G : Hp) : List (Str × V) → List (Str × D) → Prop
  | nil : RpF K G [] []
  | cons {k : Str} {v : V} {d : D} {vs : List (Str × V)} {ds : List (Str × D)} : Rp K G v d → RpF K G vs ds → RpF K G ((k, v) :: vs) ((k, d) :: ds)
end

theorem sameT {K : Fg} {H H' : Hp} {a : Addr} {xs : List V} (e : Same H H') (h : SqT K H a xs) : SqT K H' a xs := by
  rcases h with (h | ⟨o, h⟩) | h
  · exact .inl (.inl (e _ _ h))
  · exact .inl (.inr ⟨o, e _ _ h⟩)
  · exact .inr h

section
variable {K : Fg} {G G' : Hp}
mutual
theorem Rp.mono (e : Same G G') {v : V} {d : D} : Rp K G v d → Rp K G' v d
  | .non => .non
  | .bl b => .bl b
  | .int i => .int i
  | .str s => .str s
  | .tup h r => .tup (h.mono e) (RpA.mono e r)
  | .lst h r => .lst (e _ _ h) (RpA.mono e r)
  | .scr h => .scr (e.seq h)
  | .dct h r => .dct (e _ _ h) (RpK.mono e r)
  | .ins h h2 r => .ins (e _ _ h) (e _ _ h2) (RpF.mono e r)
theorem RpA.mono (e : Same G G') {vs : List V} {ds : List D} : RpA K G vs ds → RpA K G' vs ds
  | .nil => .nil
  | .cons r t => .cons (Rp.mono e r) (RpA.mono e t)
theorem RpK.mono (e : Same G G') {vs : List (Key × V)} {ds : List (Key × D)} : RpK K G vs ds → RpK K G' vs ds
  | .nil => .nil
  | .cons r t => .cons (Rp.mono e r) (RpK.mono e t)
theorem RpF.mono (e : Same G G') {vs : List (Str × V)} {ds : List (Str × D)} : RpF K G vs ds → RpF K G' vs ds
  | .nil => .nil
  | .cons r t => .cons (Rp.mono e r) (RpF.mono e t)
end
theorem RpA.length {vs : List V} {ds : List D} (r : RpA K G vs ds) : vs.length = ds.length := by
  induction ds generalizing vs with
  | nil => cases r; rfl
  | cons d ds ih => cases r with
    | cons r t => simp [ih t]
theorem RpA.get {vs : List V} {ds : List D} (r : RpA K G vs ds) {i : Nat} {d : D} (h : ds[i]? = some d) : ∃ v, vs[i]? = some v ∧ Rp K G v d := by
  induction ds generalizing vs i with
  | nil => simp at h
  | cons d0 ds ih => cases r with
    | cons r t =>
      cases i with
      | zero => simp at h; subst h; exact ⟨_, rfl, r⟩
      | succ i => simpa using ih t (i := i) (by simpa using h)
theorem RpA.get' {vs : List V} {ds : List D} (r : RpA K G vs ds) {i : Nat} {v : V} (h : vs[i]? = some v) : ∃ d, ds[i]? = some d ∧ Rp K G v d := by
  induction ds generalizing vs i with
  | nil => cases r; simp at h
  | cons d0 ds ih => cases r with
    | cons r t =>
      cases i with
      | zero => simp at h; subst h; exact ⟨_, rfl, r⟩
      | succ i => simpa using ih t (i := i) (by simpa using h)
theorem RpA.append {vs us : List V} {ds es : List D} (r : RpA K G vs ds) (r' : RpA K G us es) : RpA K G (vs ++ us) (ds ++ es) := by
  induction ds generalizing vs with
  | nil => cases r; exact r'
  | cons d ds ih => cases r with
    | cons r t => exact .cons r (ih t)
theorem RpA.take {vs : List V} {ds : List D} (r : RpA K G vs ds) (n : Nat) : RpA K G (vs.take n) (ds.take n) := by
  induction ds generalizing vs n with
  | nil => cases r; simp; exact .nil
  | cons d ds ih => cases r with
    | cons r t => cases n with
      | zero => exact .nil
      | succ n => exact .cons r (ih t n)
theorem RpA.drop {vs : List V} {ds : List D} (r : RpA K G vs ds) (n : Nat) : RpA K G (vs.drop n) (ds.drop n) := by
  induction ds generalizing vs n with
  | nil => cases r; simp; exact .nil
  | cons d ds ih => cases r with
    | cons r t => cases n with
      | zero => exact .cons r t
      | succ n => exact ih t n
theorem RpA.set {vs : List V} {ds : List D} (r : RpA K G vs ds) (i : Nat) {v : V} {d : D} (h : Rp K G v d) : RpA K G (vs.set i v) (ds.set i d) := by
  induction ds generalizing vs i with
  | nil => cases r; exact .nil
  | cons d0 ds ih => cases r with
    | cons r t => cases i with
      | zero => exact .cons h t
      | succ n => exact .cons r (ih t n)
theorem RpA.reverse {vs : List V} {ds : List D} (r : RpA K G vs ds) : RpA K G vs.reverse ds.reverse := by
  induction ds generalizing vs with
  | nil => cases r; exact .nil
  | cons d0 ds ih => cases r with
    | cons r t => simp only [List.reverse_cons]; exact (ih t).append (.cons r .nil)
theorem RpA.eraseIdx {vs : List V} {ds : List D} (r : RpA K G vs ds) (i : Nat) : RpA K G (vs.eraseIdx i) (ds.eraseIdx i) := by
  induction ds generalizing vs i with
  | nil => cases r; exact .nil
  | cons d0 ds ih => cases r with
    | cons r t => cases i with
      | zero => exact t
      | succ n => exact .cons r (ih t n)
theorem RpA.strs {vs : List V} {ss : List Str} (r : RpA K G vs (ss.map D.str)) : vs = ss.map V.str := by
  induction ss generalizing vs with
  | nil => cases r; rfl
  | cons s ss ih => cases r with
    | cons r t => cases r; simp [ih t]
theorem RpA.ofStrs : ∀ (ss : List Str), RpA K G (ss.map V.str) (ss.map D.str)
  | [] => .nil
  | s :: ss => .cons (.str s) (RpA.ofStrs ss)
theorem RpA.ints {vs : List V} {ss : List Int} (r : RpA K G vs (ss.map D.int)) : vs = ss.map V.int := by
  induction ss generalizing vs with
  | nil => cases r; rfl
  | cons s ss ih => cases r with
    | cons r t => cases r; simp [ih t]
theorem RpA.ofInts : ∀ (ss : List Int), RpA K G (ss.map V.int) (ss.map D.int)
  | [] => .nil
  | s :: ss => .cons (.int s) (RpA.ofInts ss)
theorem RpF.look {vs : List (Str × V)} {ds : List (Str × D)} (r : RpF K G vs ds) {k : Str} {d : D} (h : ds.lookup k = some d) : ∃ v, vs.lookup k = some v ∧ Rp K G v d := by
  induction ds generalizing vs with
  | nil => simp at h
  | cons p ds ih => cases r with
    | cons r t =>
      rw [List.lookup_cons] at h ⊢
      split at h
      · cases h; exact ⟨_, rfl, r⟩
      · exact ih t h
theorem RpF.none {vs : List (Str × V)} {ds : List (Str × D)} (r : RpF K G vs ds) {k : Str} (h : ds.lookup k = Option.none) : vs.lookup k = Option.none := by
  induction ds generalizing vs with
  | nil => cases r; rfl
  | cons p ds ih => cases r with
    | cons r t =>
      rw [List.lookup_cons] at h ⊢
      split at h
      · cases h
      · exact ih t h
end

/-! ### pure data: the library's -/
mutual
def D.py : D → PyData
  | .non => .none
  | .bl b => .bool b
  | .int i => .int i
  | .str s => .str s
  | .tup xs => .tuple (pyA xs)
  | .lst xs => .list (pyA xs)
  | .dct _ | .ins _ _ | .scr _ => .none
def pyA : List D → List PyData
  | [] => []
  | x :: xs => x.py :: pyA xs
end
mutual
/-- none but None, bools, ints, texts, tuples, lists -/
def D.pure : D → Bool
  | .non | .bl _ | .int _ | .str _ => true
  | .tup xs | .lst xs => pureA xs
  | .dct _ | .ins _ _ | .scr _ => false
def pureA : List D → Bool
  | [] => true
  | x :: xs => x.pure && pureA xs
end
theorem pyA_map : ∀ xs : List D, pyA xs = xs.map D.py
  | [] => rfl
  | x :: xs => by rw [pyA, pyA_map xs]; rfl
theorem pureA_all : ∀ xs : List D, pureA xs = xs.all D.pure
  | [] => rfl
  | x :: xs => by rw [pureA, pureA_all xs]; rfl
section
variable {K : Fg} {G : Hp}
mutual
theorem Rp.dp {v : V} {d : D} : Rp K G v d → d.pure = true → Dp K G v d.py
  | .non, _ => .non
  | .bl b, _ => .bl b
  | .int i, _ => .int i
  | .str s, _ => .str s
  | .tup h r, p => .tup h.t (RpA.dp r (by simpa [D.pure] using p))
  | .lst h r, p => .lst (SqL.of h) (RpA.dp r (by simpa [D.pure] using p))
  | .scr _, p => by simp [D.pure] at p
  | .dct _ _, p => by simp [D.pure] at p
  | .ins _ _ _, p => by simp [D.pure] at p
theorem RpA.dp {vs : List V} {ds : List D} : RpA K G vs ds → pureA ds = true → DpAll K G vs (pyA ds)
  | .nil, _ => .nil
  | .cons r t, p => by
    simp only [pureA, Bool.and_eq_true] at p
    exact .cons (Rp.dp r p.1) (RpA.dp t p.2)
end
end

/-! ### the heap grows -/
structure Ext (G H G' H' : Hp) : Prop where
  g : Same G G'
  h : Same H H'
  s : Same G' H'
  nw : ∀ a o, G' a = some o → G a = some o ∨ H a = none
theorem Ext.refl {G H : Hp} (s : Same G H) : Ext G H G H := ⟨Same.refl _, Same.refl _, s, fun _ _ h => .inl h⟩
theorem Ext.trans {G H G1 H1 G2 H2 : Hp} (a : Ext G H G1 H1) (b : Ext G1 H1 G2 H2) : Ext G H G2 H2 := by
  refine ⟨a.g.trans b.g, a.h.trans b.h, b.s, fun c o e => ?_⟩
  rcases b.nw c o e with e | e
  · exact a.nw c o e
  · exact .inr (a.h.free e)
theorem same_upd {H : Hp} {p : Addr} {o : HO} (h : H p = none) : Same H (upd H p o) := fun b u e => by
  rw [upd_ne (ne_of_none e h)]; exact e
/-- a new object, frozen -/
theorem Ext.new {G H : Hp} {p : Addr} {o : HO} (s : Same G H) (h : H p = none) : Ext G H (upd G p o) (upd H p o) := by
  have gp : G p = none := s.free h
  refine ⟨same_upd gp, same_upd h, fun b u e => ?_, fun b u e => ?_⟩
  · by_cases hb : b = p
    · subst hb; rw [upd_same] at e ⊢; exact e
    · rw [upd_ne hb] at e ⊢; exact s b u e
  · by_cases hb : b = p
    · subst hb; exact .inr h
    · rw [upd_ne hb] at e; exact .inl e
/-- a new object, not frozen -/
theorem Ext.aside {G H : Hp} {p : Addr} {o : HO} (s : Same G H) (h : H p = none) : Ext G H G (upd H p o) :=
  ⟨Same.refl _, same_upd h, s.trans (same_upd h), fun _ _ e => .inl e⟩

/-! ### results -/
structure Exn where
  cls : Addr
  fs : List (Str × D)
inductive R (α : Type) where
  | ok (a : α) | ex (e : Exn) | st
def R.bind {α β : Type} (r : R α) (f : α → R β) : R β := match r with
  | .ok a => f a
  | .ex e => .ex e
  | .st => .st
@[simp] theorem R.bind_ok {α β : Type} (a : α) (f : α → R β) : (R.ok a).bind f = f a := rfl
@[simp] theorem R.bind_ex {α β : Type} (a : Exn) (f : α → R β) : (R.ex a : R α).bind f = .ex a := rfl
@[simp] theorem R.bind_st {α β : Type} (f : α → R β) : (R.st : R α).bind f = .st := rfl
def XkOk (K : Fg) (G H : Hp) (x : Exn) (d : Option Addr) : Prop := match d with
  | none => x.fs = []
  | some a => ∃ fs, H a = some (.xd fs) ∧ RpF K G fs x.fs

/-! ### slots -/
inductive Ow where
  | lst (ds : List D) | ll (dss : List (List D)) | dk (kvs : List (Key × D)) | dt (kvs : List (List Key × D)) | ins (C : Addr) (fs : List (Str × D))
inductive Sl where
  | un | val (d : D) | own (t : Nat) (o : Ow)

/-- inner lists of a list -/
inductive LLs (K : Fg) (G H : Hp) : List Addr → List (List D) → Prop
  | nil : LLs K G H [] []
  | cons {a : Addr} {vs : List V} {ds : List D} {as : List Addr} {dss : List (List D)} : H a = some (.lst vs) → RpA K G vs ds → LLs K G H as dss → LLs K G H (a :: as) (ds :: dss)
inductive RpT (K : Fg) (G : Hp) : List (List Key × V) → List (List Key × D) → Prop
  | nil : RpT K G [] []
  | cons {k : List Key} {v : V} {d : D} {vs : List (List Key × V)} {ds : List (List Key × D)} : Rp K G v d → RpT K G vs ds → RpT K G ((k, v) :: vs) ((k, d) :: ds)
theorem RpT.mono {K : Fg} {G G' : Hp} (e : Same G G') {vs : List (List Key × V)} {ds : List (List Key × D)} (h : RpT K G vs ds) : RpT K G' vs ds := by
  induction h with
  | nil => exact .nil
  | cons r _ ih => exact .cons (r.mono e) ih
inductive Own (K : Fg) (G H : Hp) : V → Ow → List Addr → Prop
  | lst {a : Addr} {vs : List V} {ds : List D} : H a = some (.lst vs) → RpA K G vs ds → Own K G H (.ref a) (.lst ds) [a]
  | ll {a : Addr} {as : List Addr} {dss : List (List D)} : H a = some (.lst (as.map V.ref)) → LLs K G H as dss → Own K G H (.ref a) (.ll dss) (a :: as)
  | dk {a : Addr} {vs : List (Key × V)} {ds : List (Key × D)} : H a = some (.dK vs) → RpK K G vs ds → Own K G H (.ref a) (.dk ds) [a]
  | dt {a : Addr} {vs : List (List Key × V)} {ds : List (List Key × D)} : H a = some (.dT vs) → RpT K G vs ds → Own K G H (.ref a) (.dt ds) [a]
  | ins {a dx C : Addr} {vs : List (Str × V)} {fs : List (Str × D)} : H a = some (.ins C dx vs) → H dx = some (.own a) → RpF K G vs fs → Own K G H (.ref a) (.ins C fs) [a, dx]

inductive Sts (K : Fg) (θ : Nat → Addr) (G H : Hp) : List (Option V) → List Sl → List Addr → Prop
  | nil : Sts K θ G H [] [] []
  | un {v : Option V} {σ : List (Option V)} {ρ : List Sl} {W : List Addr} : Sts K θ G H σ ρ W → Sts K θ G H (v :: σ) (.un :: ρ) W
  | val {v : V} {d : D} {σ : List (Option V)} {ρ : List Sl} {W : List Addr} : Rp K G v d → Sts K θ G H σ ρ W → Sts K θ G H (some v :: σ) (.val d :: ρ) W
  | own {v : V} {t : Nat} {o : Ow} {fp : List Addr} {σ : List (Option V)} {ρ : List Sl} {W : List Addr} : Own K G H v o fp → (t = 0 ∨ v = .ref (θ t)) → Sts K θ G H σ ρ W → Sts K θ G H (some v :: σ) (.own t o :: ρ) (fp ++ W)

structure Stt (K : Fg) (θ : Nat → Addr) (G H : Hp) (σ : List (Option V)) (ρ : List Sl) (W : List Addr) : Prop where
  same : Same G H
  sts : Sts K θ G H σ ρ W
  nd : W.Nodup
  out : ∀ a ∈ W, G a = none

section
variable {K : Fg} {θ : Nat → Addr} {G H G' H' : Hp} {σ : List (Option V)} {ρ : List Sl} {W fp : List Addr} {v : V} {o : Ow}
theorem LLs.ext {as : List Addr} {dss : List (List D)} (e : Ext G H G' H') (h : LLs K G H as dss) : LLs K G' H' as dss := by
  induction h with
  | nil => exact .nil
  | cons h r _ ih => exact .cons (e.h _ _ h) (r.mono e.g) ih
theorem LLs.in_ {as : List Addr} {dss : List (List D)} (h : LLs K G H as dss) : ∀ a ∈ as, ∃ u, H a = some u := by
  induction h with
  | nil => intro a ha; cases ha
  | cons h r _ ih =>
    intro a ha
    rcases List.mem_cons.mp ha with rfl | ha
    · exact ⟨_, h⟩
    · exact ih a ha
theorem Own.ext (e : Ext G H G' H') (h : Own K G H v o fp) : Own K G' H' v o fp := by
  cases h with
  | lst h r => exact .lst (e.h _ _ h) (r.mono e.g)
  | ll h r => exact .ll (e.h _ _ h) (r.ext e)
  | dk h r => exact .dk (e.h _ _ h) (r.mono e.g)
  | dt h r => exact .dt (e.h _ _ h) (r.mono e.g)
  | ins h h2 r => exact .ins (e.h _ _ h) (e.h _ _ h2) (r.mono e.g)
theorem Own.in_ (h : Own K G H v o fp) : ∀ a ∈ fp, ∃ u, H a = some u := by
  intro a ha
  cases h with
  | lst h r => simp at ha; subst ha; exact ⟨_, h⟩
  | ll h r =>
    rcases List.mem_cons.mp ha with rfl | ha
    · exact ⟨_, h⟩
    · exact r.in_ a ha
  | dk h r => simp at ha; subst ha; exact ⟨_, h⟩
  | dt h r => simp at ha; subst ha; exact ⟨_, h⟩
  | ins h h2 r =>
    simp at ha
    rcases ha with rfl | rfl
    · exact ⟨_, h⟩
    · exact ⟨_, h2⟩
theorem Sts.ext (e : Ext G H G' H') (h : Sts K θ G H σ ρ W) : Sts K θ G' H' σ ρ W := by
  induction h with
  | nil => exact .nil
  | un _ ih => exact .un ih
  | val r _ ih => exact .val (r.mono e.g) ih
  | own r t _ ih => exact .own (r.ext e) t ih
theorem Sts.in_ (h : Sts K θ G H σ ρ W) : ∀ a ∈ W, ∃ u, H a = some u := by
  induction h with
  | nil => intro a ha; cases ha
  | un _ ih => exact ih
  | val _ _ ih => exact ih
  | own r _ _ ih =>
    intro a ha
    rcases List.mem_append.mp ha with h | h
    · exact r.in_ a h
    · exact ih a h
theorem Stt.ext (e : Ext G H G' H') (h : Stt K θ G H σ ρ W) : Stt K θ G' H' σ ρ W := by
  refine ⟨e.s, h.sts.ext e, h.nd, fun a ha => ?_⟩
  cases q : G' a with
  | none => rfl
  | some u =>
    rcases e.nw a u q with z | z
    · rw [h.out a ha] at z; cases z
    · obtain ⟨u', hu⟩ := h.sts.in_ a ha
      rw [hu] at z; cases z
theorem Sts.len (h : Sts K θ G H σ ρ W) : σ.length = ρ.length := by
  induction h with
  | nil => rfl
  | un _ ih => simp [ih]
  | val _ _ ih => simp [ih]
  | own _ _ _ ih => simp [ih]
theorem Sts.val_at {i : Nat} {d : D} (h : Sts K θ G H σ ρ W) (e : ρ[i]? = some (.val d)) : ∃ v, σ[i]? = some (some v) ∧ Rp K G v d := by
  induction h generalizing i with
  | nil => simp at e
  | un _ ih => cases i with
    | zero => simp at e
    | succ i => simpa using ih (i := i) (by simpa using e)
  | val r _ ih => cases i with
    | zero => simp at e; subst e; exact ⟨_, rfl, r⟩
    | succ i => simpa using ih (i := i) (by simpa using e)
  | own r _ _ ih => cases i with
    | zero => simp at e
    | succ i => simpa using ih (i := i) (by simpa using e)
theorem Sts.own_at {i t : Nat} {o : Ow} (h : Sts K θ G H σ ρ W) (e : ρ[i]? = some (.own t o)) : ∃ v fp, σ[i]? = some (some v) ∧ Own K G H v o fp ∧ (∀ a ∈ fp, a ∈ W) ∧ (t = 0 ∨ v = .ref (θ t)) := by
  induction h generalizing i with
  | nil => simp at e
  | un _ ih => cases i with
    | zero => simp at e
    | succ i => simpa using ih (i := i) (by simpa using e)
  | val r _ ih => cases i with
    | zero => simp at e
    | succ i => simpa using ih (i := i) (by simpa using e)
  | own r tt _ ih => cases i with
    | zero => simp at e; obtain ⟨rfl, rfl⟩ := e; exact ⟨_, _, rfl, r, fun a ha => List.mem_append_left _ ha, tt⟩
    | succ i =>
      obtain ⟨v, fp, h1, h2, h3, h4⟩ := ih (i := i) (by simpa using e)
      exact ⟨v, fp, by simpa using h1, h2, fun a ha => List.mem_append_right _ (h3 a ha), h4⟩
end
end DL

set_option Elab.async false
set_option linter.all false
set_option maxRecDepth 100000
set_option maxHeartbeats 2000000
/-! The data layer, second part: pure expressions. -/
namespace DL
open PySem PySem.Spec PyProof.Rows L2

/-! ### how a value shows a datum: clean (all of it frozen), half (its own object may be owned), now (at this heap) -/
abbrev ZK := Fg → Hp → Hp → V → D → Prop
def Zc : ZK := fun K G _ v d => Rp K G v d
def Zh : ZK := fun K G H v d => Rp K G v d ∨ ∃ a vs ds, v = .ref a ∧ d = .lst ds ∧ H a = some (.lst vs) ∧ RpA K G vs ds
def Zd : ZK := fun K _ H v d => Rp K H v d
class ZOk (Z : ZK) : Prop where
  ext : ∀ {K G H G' H' v d}, Ext G H G' H' → Z K G H v d → Z K G' H' v d
  of : ∀ {K G H v d}, Same G H → Rp K G v d → Z K G H v d
  now : ∀ {K G H v d}, Same G H → Z K G H v d → Rp K H v d
instance : ZOk Zc := ⟨fun e h => Rp.mono e.g h, fun _ h => h, fun s h => Rp.mono s h⟩
instance : ZOk Zh := ⟨fun e h => by
    rcases h with h | ⟨a, vs, ds, h1, h2, h3, h4⟩
    · exact .inl (h.mono e.g)
    · exact .inr ⟨a, vs, ds, h1, h2, e.h _ _ h3, h4.mono e.g⟩, fun _ h => .inl h, fun s h => by
    rcases h with h | ⟨a, vs, ds, h1, h2, h3, h4⟩
    · exact h.mono s
    · subst h1 h2; exact .lst h3 (h4.mono s)⟩
instance : ZOk Zd := ⟨fun e h => Rp.mono e.h h, fun s h => h.mono s, fun _ h => h⟩
theorem Zh.lst {K : Fg} {G H : Hp} {v : V} {ds : List D} (s : Same G H) (h : Zh K G H v (.lst ds)) : ∃ a vs, v = .ref a ∧ H a = some (.lst vs) ∧ RpA K G vs ds := by
  rcases h with h | ⟨a, vs, ds', h1, h2, h3, h4⟩
  · cases h with
    | lst h r => exact ⟨_, _, rfl, s _ _ h, r⟩
  · cases h2; exact ⟨a, vs, h1, h3, h4⟩
theorem Zh.tup {K : Fg} {G H : Hp} {v : V} {ds : List D} (s : Same G H) (h : Zh K G H v (.tup ds)) : ∃ a vs, v = .ref a ∧ SqX K H a vs ∧ RpA K G vs ds := by
  rcases h with h | ⟨a, vs, ds', h1, h2, h3, h4⟩
  · cases h with
    | tup h r => exact ⟨_, _, rfl, h.mono s, r⟩
  · cases h2
theorem Zh.int {K : Fg} {G H : Hp} {v : V} {i : Int} (h : Zh K G H v (.int i)) : v = .int i := by
  rcases h with h | ⟨a, vs, ds', h1, h2, h3, h4⟩
  · cases h; rfl
  · cases h2
theorem Zh.str {K : Fg} {G H : Hp} {v : V} {i : Str} (h : Zh K G H v (.str i)) : v = .str i := by
  rcases h with h | ⟨a, vs, ds', h1, h2, h3, h4⟩
  · cases h; rfl
  · cases h2
theorem Zh.bl {K : Fg} {G H : Hp} {v : V} {i : Bool} (h : Zh K G H v (.bl i)) : v = .bl i := by
  rcases h with h | ⟨a, vs, ds', h1, h2, h3, h4⟩
  · cases h; rfl
  · cases h2
theorem Zh.non {K : Fg} {G H : Hp} {v : V} (h : Zh K G H v .non) : v = .non := by
  rcases h with h | ⟨a, vs, ds', h1, h2, h3, h4⟩
  · cases h; rfl
  · cases h2

/-! ### what is promised of a result, from a state -/
def Pk (Z : ZK) (K : Fg) (W : WX) (σ : L2.St) (θ : Nat → Addr) (G : Hp) (ρ : List Sl) (Ws : List Addr) (H : Hp) (r : R D) (Q : VK) : Prop :=
  Stt K θ G H σ ρ Ws ∧ match r with
    | .ok d => ∀ v G' H', Ext G H G' H' → Z K G' H' v d → Q v H'
    | .ex x => ∀ d G' H', Ext G H G' H' → XkOk K G' H' x d → W (.ref x.cls) d σ H'
    | .st => False
section
variable {Z Za : ZK} {K : Fg} {W : WX} {σ : L2.St} {θ : Nat → Addr} {G H G1 H1 : Hp} {ρ : List Sl} {Ws : List Addr} {r : R D} {Q Q' : VK} {d : D} {v : V}
theorem Pk.ext (h : Pk Z K W σ θ G ρ Ws H r Q) (e : Ext G H G1 H1) : Pk Z K W σ θ G1 ρ Ws H1 r Q := by
  refine ⟨h.1.ext e, ?_⟩
  have h2 := h.2
  cases r with
  | ok d => exact fun v G' H' e' z => h2 v G' H' (e.trans e') z
  | ex x => exact fun v G' H' e' z => h2 v G' H' (e.trans e') z
  | st => exact h2
theorem Pk.imp (h : Pk Z K W σ θ G ρ Ws H r Q) (q : ∀ v H', Q v H' → Q' v H') : Pk Z K W σ θ G ρ Ws H r Q' := by
  refine ⟨h.1, ?_⟩
  have h2 := h.2
  cases r with
  | ok d => exact fun v G' H' e' z => q _ _ (h2 v G' H' e' z)
  | ex x => exact h2
  | st => exact h2
theorem Pk.bind {k : D → R D} (h : Pk Z K W σ θ G ρ Ws H (r.bind k) Q) : Pk Za K W σ θ G ρ Ws H r (fun v H1 => ∃ d G1, r = .ok d ∧ Ext G H G1 H1 ∧ Za K G1 H1 v d ∧ Pk Z K W σ θ G1 ρ Ws H1 (k d) Q) := by
  refine ⟨h.1, ?_⟩
  cases r with
  | ok d => exact fun v G' H' e' z => ⟨d, G', rfl, e', z, Pk.ext h e'⟩
  | ex x => exact h.2
  | st => exact h.2
theorem Pk.same (h : Pk Z K W σ θ G ρ Ws H r Q) : Same G H := h.1.same
/-- the value is there, nothing is laid -/
theorem Pk.val (h : Pk Z K W σ θ G ρ Ws H (.ok d) Q) (z : Z K G H v d) : Q v H := h.2 v G H (Ext.refl h.1.same) z
/-- a new object, frozen -/
theorem Pk.new {p : Addr} {o : HO} (h : Pk Z K W σ θ G ρ Ws H (.ok d) Q) (hp : H p = none) (z : Z K (upd G p o) (upd H p o) (.ref p) d) : Q (.ref p) (upd H p o) :=
  h.2 _ _ _ (Ext.new h.1.same hp) z
end
theorem new_lst {K : Fg} {G H : Hp} {p : Addr} {vs : List V} {ds : List D} (hp : H p = none) (s : Same G H) (r : RpA K G vs ds) : Rp K (upd G p (.lst vs)) (.ref p) (.lst ds) :=
  .lst upd_same (r.mono (same_upd (s.free hp)))
theorem new_tup {K : Fg} {G H : Hp} {p : Addr} {o : Obj} {vs : List V} {ds : List D} (hp : H p = none) (ho : o.dict = none) (s : Same G H) (r : RpA K G vs ds) : Rp K (upd G p (.frz o (.tup vs))) (.ref p) (.tup ds) :=
  .tup (.inl ⟨o, upd_same, ho⟩) (r.mono (same_upd (s.free hp)))
/-- a new plain tuple laid -/
theorem tup_laid {X : Cx} {pins : List (Addr × Obj)} {σ : L2.St} {H : Hp} {s : Shared} {vs : List V} {its : List Value} {t' : Nat} (I : Inv X pins σ H s) (z : vs.length ≤ sizeLine) (r : Vals vs its) :
    Inv X pins σ (upd H s.heap.objs.size (.frz { cls := .type "tuple", data := .seq its.toArray } (.tup vs))) { s with heap := s.heap.push { cls := .type "tuple", data := .seq its.toArray }, toks := t' } :=
  I.laid (fun b u e => Heap.get?_push_of_some _ e) (Nat.le_refl _) ⟨Heap.get?_push_size _ rfl, z, its, r, ⟨_, Heap.get?_push_size _ rfl, rfl, _, rfl⟩⟩
def tTupX (t : TA) : TE := fun σ H Q => t σ H fun xs H1 => xs.length ≤ sizeLine ∧ ∀ p o, H1 p = none → o.dict = none → Q (.ref p) (upd H1 p (.frz o (.tup xs)))
theorem pe_tupX {X : Cx} {es : List Expr} {t : TA} {x1} {pos : Pos} (h : PA X es t) : PE X (.Tuple es x1 pos) (tTupX t) := ⟨fun pins s σ H Q I hq =>
  wpAny_Tuple_spliced (thn (h.run pos pins s σ H _ I hq) fun us s1 ⟨xs, H1, I1, r, z, q⟩ => ⟨by rw [← r.length]; exact z, ⟨.ref s1.heap.objs.size, _, tup_laid (t' := s1.toks) I1 z r, rfl, q _ _ (I1.hok.fresh (Nat.le_refl _)) rfl⟩⟩)⟩

def tZ (Z : ZK) (K : Fg) (W : WX) (g : List Sl → R D) : TE := fun σ H Q => ∃ θ G ρ Ws, Pk Z K W σ θ G ρ Ws H (g ρ) Q
structure DZ (Z : ZK) (X : Cx) (W : WX) (e : Expr) (g : List Sl → R D) : Prop where
  run : PE X e (tZ Z X.K W g)
abbrev DP := DZ Zc
abbrev DQ := DZ Zh
abbrev DR := DZ Zd
/-- a reading by a stronger one -/
theorem PE.conseq {X : Cx} {e : Expr} {t t' : TE} (h : PE X e t) (w : ∀ σ H Q, t' σ H Q → t σ H Q) : PE X e t' := ⟨fun pins s σ H Q I q => h.run pins s σ H Q I (w _ _ _ q)⟩
theorem PT.conseq {X : Cx} {e : Expr} {t t' : TT} (h : PT X e t) (w : ∀ σ H Q, t' σ H Q → t σ H Q) : PT X e t' := ⟨fun pins s σ H Q I q => h.run pins s σ H Q I (w _ _ _ q)⟩
theorem PW.conseq {X : Cx} {e : Expr} {t t' : TT} (h : PW X e t) (w : ∀ σ H Q, t' σ H Q → t σ H Q) : PW X e t' := ⟨fun wh pins s σ H Q I q => h.run wh pins s σ H Q I (w _ _ _ q)⟩
theorem PA.conseq {X : Cx} {e : List Expr} {t t' : TA} (h : PA X e t) (w : ∀ σ H Q, t' σ H Q → t σ H Q) : PA X e t' := ⟨fun pos pins s σ H Q I q => h.run pos pins s σ H Q I (w _ _ _ q)⟩
theorem PS.conseq {X : Cx} {e : Stmt} {t t' : TS} (h : PS X e t) (w : ∀ D σ H, t' D σ H → t D σ H) : PS X e t' := ⟨fun pins s σ H D I q => h.run pins s σ H D I (w _ _ _ q)⟩
theorem PSs.conseq {X : Cx} {e : List Stmt} {t t' : TS} (h : PSs X e t) (w : ∀ D σ H, t' D σ H → t D σ H) : PSs X e t' := ⟨fun pins s σ H D I q => h.run pins s σ H D I (w _ _ _ q)⟩
section
variable {X : Cx} {W : WX} {e a b c : Expr} {g fa fb fc : List Sl → R D} {pos : Pos} {Z Za Zb : ZK}
theorem DZ.weak [ZOk Z] (h : DP X W e g) : DZ Z X W e g := ⟨PE.conseq h.run fun σ H Q ⟨θ, G, ρ, Ws, q⟩ => ⟨θ, G, ρ, Ws, q.1, by
  have q2 := q.2
  cases hg : g ρ with
  | ok d => rw [hg] at q2; exact fun v G' H' e z => q2 v G' H' e (ZOk.of e.s z)
  | ex x => rw [hg] at q2; exact q2
  | st => rw [hg] at q2; exact q2⟩⟩
theorem DZ.dirty [ZOk Z] (h : DZ Z X W e g) : DR X W e g := ⟨PE.conseq h.run fun σ H Q ⟨θ, G, ρ, Ws, q⟩ => ⟨θ, G, ρ, Ws, q.1, by
  have q2 := q.2
  cases hg : g ρ with
  | ok d => rw [hg] at q2; exact fun v G' H' e z => q2 v G' H' e (ZOk.now e.s z)
  | ex x => rw [hg] at q2; exact q2
  | st => rw [hg] at q2; exact q2⟩⟩

/-! ### names, constants -/
def pVar (i : Nat) (ρ : List Sl) : R D := match ρ[i]? with
  | some (.val d) => .ok d
  | _ => .st
/-- .. or the list that it owns -/
def pVarQ (i : Nat) (ρ : List Sl) : R D := match ρ[i]? with
  | some (.val d) => .ok d
  | some (.own _ (.lst ds)) => .ok (.lst ds)
  | _ => .st
def pVarR (i : Nat) (ρ : List Sl) : R D := match ρ[i]? with
  | some (.val d) => .ok d
  | some (.own _ (.lst ds)) => .ok (.lst ds)
  | some (.own _ (.ll dss)) => .ok (.lst (dss.map .lst))
  | _ => .st
def pC (d : D) (_ : List Sl) : R D := .ok d
theorem dp_var {i : Nat} {x : Str} (h : PE X (.Name x pos) (tVar i)) : DP X W (.Name x pos) (pVar i) := ⟨PE.conseq h fun σ H Q ⟨θ, G, ρ, Ws, q⟩ => by
  unfold pVar at q
  cases e : ρ[i]? with
  | none => rw [e] at q; exact q.2.elim
  | some s =>
    rw [e] at q
    cases s with
    | val d =>
      obtain ⟨v, h1, h2⟩ := q.1.sts.val_at e
      exact ⟨v, h1, q.val h2⟩
    | un => exact q.2.elim
    | own _ _ => exact q.2.elim⟩
theorem dq_var {i : Nat} {x : Str} (h : PE X (.Name x pos) (tVar i)) : DQ X W (.Name x pos) (pVarQ i) := ⟨PE.conseq h fun σ H Q ⟨θ, G, ρ, Ws, q⟩ => by
  unfold pVarQ at q
  cases e : ρ[i]? with
  | none => rw [e] at q; exact q.2.elim
  | some s =>
    rw [e] at q
    cases s with
    | val d =>
      obtain ⟨v, h1, h2⟩ := q.1.sts.val_at e
      exact ⟨v, h1, q.val (.inl h2)⟩
    | un => exact q.2.elim
    | own t o =>
      cases o with
      | lst ds =>
        obtain ⟨v, fp, h1, h2, _⟩ := q.1.sts.own_at e
        cases h2 with
        | lst h2 h3 => exact ⟨_, h1, q.val (.inr ⟨_, _, _, rfl, rfl, h2, h3⟩)⟩
      | _ => exact q.2.elim⟩
theorem LLs.now {K : Fg} {G H : Hp} (s : Same G H) {as : List Addr} {dss : List (List D)} (h : LLs K G H as dss) : RpA K H (as.map V.ref) (dss.map D.lst) := by
  induction h with
  | nil => exact .nil
  | cons h r _ ih => exact .cons (.lst h (r.mono s)) ih
theorem dr_var {i : Nat} {x : Str} (h : PE X (.Name x pos) (tVar i)) : DR X W (.Name x pos) (pVarR i) := ⟨PE.conseq h fun σ H Q ⟨θ, G, ρ, Ws, q⟩ => by
  unfold pVarR at q
  have s := q.1.same
  cases e : ρ[i]? with
  | none => rw [e] at q; exact q.2.elim
  | some sl =>
    rw [e] at q
    cases sl with
    | val d =>
      obtain ⟨v, h1, h2⟩ := q.1.sts.val_at e
      exact ⟨v, h1, q.val (h2.mono s)⟩
    | un => exact q.2.elim
    | own t o =>
      cases o with
      | lst ds =>
        obtain ⟨v, fp, h1, h2, _⟩ := q.1.sts.own_at e
        cases h2 with
        | lst h2 h3 => exact ⟨_, h1, q.val (.lst h2 (h3.mono s))⟩
      | ll ds =>
        obtain ⟨v, fp, h1, h2, _⟩ := q.1.sts.own_at e
        cases h2 with
        | ll h2 h3 => exact ⟨_, h1, q.val (.lst h2 (h3.now s))⟩
      | _ => exact q.2.elim⟩
theorem dp_c {v : V} {d : D} (h : PE X e (tC v)) (r : ∀ G, Rp X.K G v d) : DP X W e (pC d) := ⟨PE.conseq h fun σ H Q ⟨θ, G, ρ, Ws, q⟩ => q.val (r G)⟩
theorem dp_int {i : Int} {j} : DP X W (.Constant (.int i) j pos) (pC (.int i)) := dp_c pe_int fun _ => .int i
theorem dp_bl {i : Bool} {j} : DP X W (.Constant (.bool i) j pos) (pC (.bl i)) := dp_c pe_bl fun _ => .bl i
theorem dp_non {j} : DP X W (.Constant .none j pos) (pC .non) := dp_c pe_non fun _ => .non
theorem dp_str {i : Str} {j} : DP X W (.Constant (.str i) j pos) (pC (.str i)) := dp_c pe_str fun _ => .str i

/-! ### operators, calls of what is built in -/
def p1 (f : D → R D) (ga : List Sl → R D) (ρ : List Sl) : R D := (ga ρ).bind f
def p2 (f : D → D → R D) (ga gb : List Sl → R D) (ρ : List Sl) : R D := (ga ρ).bind fun x => (gb ρ).bind fun y => f x y
def p3 (f : D → D → D → R D) (ga gb gc : List Sl → R D) (ρ : List Sl) : R D := (ga ρ).bind fun x => (gb ρ).bind fun y => (gc ρ).bind fun z => f x y z
/-- by values: one, two, three operands -/
def Op1 (K : Fg) (Za : ZK) (r : V → Hp → VK → Prop) (f : D → R D) : Prop := ∀ {W σ θ G ρ Ws H x a Q}, Za K G H x a → Pk Zc K W σ θ G ρ Ws H (f a) Q → r x H Q
def Op2 (K : Fg) (Za Zb : ZK) (r : V → V → Hp → VK → Prop) (f : D → D → R D) : Prop := ∀ {W σ θ G ρ Ws H x y a b Q}, Za K G H x a → Zb K G H y b → Pk Zc K W σ θ G ρ Ws H (f a b) Q → r x y H Q
def Op3 (K : Fg) (Za Zb Zd : ZK) (r : V → V → V → Hp → VK → Prop) (f : D → D → D → R D) : Prop := ∀ {W σ θ G ρ Ws H x y z a b c Q}, Za K G H x a → Zb K G H y b → Zd K G H z c → Pk Zc K W σ θ G ρ Ws H (f a b c) Q → r x y z H Q
theorem tZ_1 [ZOk Za] {r : V → Hp → VK → Prop} {f : D → R D} {K : Fg} (op : Op1 K Za r f) {σ H Q} (h : tZ Zc K W (p1 f fa) σ H Q) : tZ Za K W fa σ H fun x H1 => r x H1 Q := by
  obtain ⟨θ, G, ρ, Ws, q⟩ := h
  exact ⟨θ, G, ρ, Ws, (q.bind (Za := Za)).imp fun x H1 ⟨d, G1, _, e, z, q1⟩ => op z q1⟩
theorem tZ_2 [ZOk Za] [ZOk Zb] {r : V → V → Hp → VK → Prop} {f : D → D → R D} {K : Fg} (op : Op2 K Za Zb r f) {σ H Q} (h : tZ Zc K W (p2 f fa fb) σ H Q) : tZ Za K W fa σ H fun x H1 => tZ Zb K W fb σ H1 fun y H2 => r x y H2 Q := by
  obtain ⟨θ, G, ρ, Ws, q⟩ := h
  exact ⟨θ, G, ρ, Ws, (q.bind (Za := Za)).imp fun x H1 ⟨d, G1, _, e, z, q1⟩ => ⟨θ, G1, ρ, Ws, (q1.bind (Za := Zb)).imp fun y H2 ⟨d2, G2, _, e2, z2, q2⟩ => op (ZOk.ext e2 z) z2 q2⟩⟩
theorem tZ_3 {Zd : ZK} [ZOk Za] [ZOk Zb] [ZOk Zd] {r : V → V → V → Hp → VK → Prop} {f : D → D → D → R D} {K : Fg} (op : Op3 K Za Zb Zd r f) {σ H Q} (h : tZ Zc K W (p3 f fa fb fc) σ H Q) :
    tZ Za K W fa σ H fun x H1 => tZ Zb K W fb σ H1 fun y H2 => tZ Zd K W fc σ H2 fun z H3 => r x y z H3 Q := by
  obtain ⟨θ, G, ρ, Ws, q⟩ := h
  exact ⟨θ, G, ρ, Ws, (q.bind (Za := Za)).imp fun x H1 ⟨d, G1, _, e, z, q1⟩ => ⟨θ, G1, ρ, Ws, (q1.bind (Za := Zb)).imp fun y H2 ⟨d2, G2, _, e2, z2, q2⟩ => ⟨θ, G2, ρ, Ws, (q2.bind (Za := Zd)).imp fun w H3 ⟨d3, G3, _, e3, z3, q3⟩ => op (ZOk.ext e3 (ZOk.ext e2 z)) (ZOk.ext e3 z2) z3 q3⟩⟩⟩
/-- x op y -/
theorem dp_bin [ZOk Za] [ZOk Zb] {op : Operator} {r : R2} {f : D → D → R D} (ho : OpR X (binaryOp op) r) (hd : Op2 X.K Za Zb r f) (ha : DZ Za X W a fa) (hb : DZ Zb X W b fb) : DP X W (.BinOp a op b pos) (p2 f fa fb) :=
  ⟨PE.conseq (pe_op ho ha.run hb.run) fun _ _ _ h => tZ_2 hd h⟩
theorem dp_un [ZOk Za] {op : UnaryOp} {r} {f : D → R D} (ho : UnR X (unaryOp op) r) (hd : Op1 X.K Za r f) (ha : DZ Za X W a fa) : DP X W (.UnaryOp op a pos) (p1 f fa) :=
  ⟨PE.conseq (pe_un ho ha.run) fun _ _ _ h => tZ_1 hd h⟩
theorem dp_cmp [ZOk Za] [ZOk Zb] {op : CmpOp} {r : R2} {f : D → D → R D} (ho : OpR X (compareOp op) r) (hd : Op2 X.K Za Zb r f) (ha : DZ Za X W a fa) (hb : DZ Zb X W b fb) (hm : behindInMarks op b = false) : DP X W (.Compare a [op] [b] pos) (p2 f fa fb) :=
  ⟨PE.conseq (pe_cmpR ho ha.run hb.run hm) fun _ _ _ h => tZ_2 hd h⟩
/-- x[i] -/
theorem dp_ix [ZOk Za] [ZOk Zb] {r : R2} {f : D → D → R D} (ho : IxR X r) (hd : Op2 X.K Za Zb r f) (ha : DZ Za X W a fa) (hb : DZ Zb X W b fb) (hs : PlainIx b) : DP X W (.Subscript a b pos) (p2 f fa fb) :=
  ⟨PE.conseq (pe_ix ho ha.run hb.run hs) fun _ _ _ h => tZ_2 hd h⟩
/-- f(a), f(a, b): what is built in, by the rule of its call -/
theorem dp_call1 [ZOk Za] {r : List V → Hp → VK → Prop} {f : D → R D} (hd : Op1 X.K Za (fun x => r [x]) f) (ha : DZ Za X W a fa) (hpe : ∀ t, PA X [a] t → PE X e (tCB r t))
    (hs : starEach [a] X.env = (false, eval a X.env) :: starEach [] X.env := by rfl) : DP X W e (p1 f fa) :=
  ⟨PE.conseq (hpe _ (pa_cons ha.run pa_nil hs)) fun _ _ _ h => tZ_1 hd h⟩
theorem dp_call2 [ZOk Za] [ZOk Zb] {r : List V → Hp → VK → Prop} {f : D → D → R D} (hd : Op2 X.K Za Zb (fun x y => r [x, y]) f) (ha : DZ Za X W a fa) (hb : DZ Zb X W b fb) (hpe : ∀ t, PA X [a, b] t → PE X e (tCB r t))
    (hs : starEach [a, b] X.env = (false, eval a X.env) :: starEach [b] X.env := by rfl) (hs2 : starEach [b] X.env = (false, eval b X.env) :: starEach [] X.env := by rfl) : DP X W e (p2 f fa fb) :=
  ⟨PE.conseq (hpe _ (pa_cons ha.run (pa_cons hb.run pa_nil hs2) hs)) fun _ _ _ h => tZ_2 hd h⟩
/-- any form with a reading of one part, two parts -/
theorem dp_of1 [ZOk Za] {r : V → Hp → VK → Prop} {f : D → R D} (hd : Op1 X.K Za r f) (ha : DZ Za X W a fa) (hpe : ∀ ta, PE X a ta → PE X e (fun σ H Q => ta σ H fun x H1 => r x H1 Q)) : DP X W e (p1 f fa) :=
  ⟨PE.conseq (hpe _ ha.run) fun _ _ _ h => tZ_1 hd h⟩
theorem dp_of2 [ZOk Za] [ZOk Zb] {r : V → V → Hp → VK → Prop} {f : D → D → R D} (hd : Op2 X.K Za Zb r f) (ha : DZ Za X W a fa) (hb : DZ Zb X W b fb) (hpe : ∀ ta tb, PE X a ta → PE X b tb → PE X e (fun σ H Q => ta σ H fun x H1 => tb σ H1 fun y H2 => r x y H2 Q)) : DP X W e (p2 f fa fb) :=
  ⟨PE.conseq (hpe _ _ ha.run hb.run) fun _ _ _ h => tZ_2 hd h⟩

/-! ### tests -/
def Tk (K : Fg) (W : WX) (σ : L2.St) (θ : Nat → Addr) (G : Hp) (ρ : List Sl) (Ws : List Addr) (H : Hp) (r : R Bool) (Q : Bool → Hp → Prop) : Prop :=
  Stt K θ G H σ ρ Ws ∧ match r with
    | .ok d => ∀ G' H', Ext G H G' H' → Q d H'
    | .ex x => ∀ d G' H', Ext G H G' H' → XkOk K G' H' x d → W (.ref x.cls) d σ H'
    | .st => False
def tT (K : Fg) (W : WX) (g : List Sl → R Bool) : TT := fun σ H Q => ∃ θ G ρ Ws, Tk K W σ θ G ρ Ws H (g ρ) Q
structure DT (X : Cx) (W : WX) (e : Expr) (g : List Sl → R Bool) : Prop where
  run : PT X e (tT X.K W g)
structure DW (X : Cx) (W : WX) (e : Expr) (g : List Sl → R Bool) : Prop where
  run : PW X e (tT X.K W g)
section
variable {K : Fg} {σ : L2.St} {θ : Nat → Addr} {G H G1 H1 : Hp} {ρ : List Sl} {Ws : List Addr} {r : R Bool} {Q Q' : Bool → Hp → Prop}
theorem Tk.ext (h : Tk K W σ θ G ρ Ws H r Q) (e : Ext G H G1 H1) : Tk K W σ θ G1 ρ Ws H1 r Q := by
  refine ⟨h.1.ext e, ?_⟩
  have h2 := h.2
  cases r with
  | ok d => exact fun G' H' e' => h2 G' H' (e.trans e')
  | ex x => exact fun v G' H' e' z => h2 v G' H' (e.trans e') z
  | st => exact h2
theorem Tk.imp (h : Tk K W σ θ G ρ Ws H r Q) (q : ∀ v H', Q v H' → Q' v H') : Tk K W σ θ G ρ Ws H r Q' := by
  refine ⟨h.1, ?_⟩
  have h2 := h.2
  cases r with
  | ok d => exact fun G' H' e' => q _ _ (h2 G' H' e')
  | ex x => exact h2
  | st => exact h2
theorem Tk.bind {k : Bool → R Bool} (h : Tk K W σ θ G ρ Ws H (r.bind k) Q) : Tk K W σ θ G ρ Ws H r (fun c H1 => ∃ G1, r = .ok c ∧ Ext G H G1 H1 ∧ Tk K W σ θ G1 ρ Ws H1 (k c) Q) := by
  refine ⟨h.1, ?_⟩
  cases r with
  | ok d => exact fun G' H' e' => ⟨G', rfl, e', Tk.ext h e'⟩
  | ex x => exact h.2
  | st => exact h.2
theorem Tk.pk {r : R D} {k : D → R Bool} {Z : ZK} (h : Tk K W σ θ G ρ Ws H (r.bind k) Q) : Pk Z K W σ θ G ρ Ws H r (fun v H1 => ∃ d G1, r = .ok d ∧ Ext G H G1 H1 ∧ Z K G1 H1 v d ∧ Tk K W σ θ G1 ρ Ws H1 (k d) Q) := by
  refine ⟨h.1, ?_⟩
  cases r with
  | ok d => exact fun v G' H' e' z => ⟨d, G', rfl, e', z, Tk.ext h e'⟩
  | ex x => exact h.2
  | st => exact h.2
theorem Pk.tk {r : R Bool} {k : Bool → R D} {Z : ZK} {Q : VK} (h : Pk Z K W σ θ G ρ Ws H (r.bind k) Q) : Tk K W σ θ G ρ Ws H r (fun c H1 => ∃ G1, r = .ok c ∧ Ext G H G1 H1 ∧ Pk Z K W σ θ G1 ρ Ws H1 (k c) Q) := by
  refine ⟨h.1, ?_⟩
  cases r with
  | ok d => exact fun G' H' e' => ⟨G', rfl, e', Pk.ext h e'⟩
  | ex x => exact h.2
  | st => exact h.2
theorem Tk.val {c : Bool} (h : Tk K W σ θ G ρ Ws H (.ok c) Q) : Q c H := h.2 G H (Ext.refl h.1.same)
end
def asB : D → R Bool
  | .bl b => .ok b
  | _ => .st
def b1 (f : D → R Bool) (g : List Sl → R D) (ρ : List Sl) : R Bool := (g ρ).bind f
def bAnd (f g : List Sl → R Bool) (ρ : List Sl) : R Bool := (f ρ).bind fun c => if c then g ρ else .ok false
def bOr (f g : List Sl → R Bool) (ρ : List Sl) : R Bool := (f ρ).bind fun c => if c then .ok true else g ρ
def bNot (f : List Sl → R Bool) (ρ : List Sl) : R Bool := (f ρ).bind fun c => .ok !c
theorem dt_val (h : DP X W e g) (he : ∀ whole, isTrue e X.env whole = (do let v ← whole; standAt e.pos; holding [v] (truthy v)) := by intro _; rfl) : DT X W e (b1 asB g) :=
  ⟨PT.conseq (pt_val h.run he) fun σ H Q ⟨θ, G, ρ, Ws, q⟩ => ⟨θ, G, ρ, Ws, (Tk.pk q).imp fun v H1 ⟨d, G1, _, e, z, q1⟩ => by
    cases d with
    | bl b => cases z; exact ⟨_, rfl, q1.val⟩
    | _ => exact q1.2.elim⟩⟩
theorem dt_not {f : List Sl → R Bool} (h : DT X W a f) : DT X W (.UnaryOp .Not a pos) (bNot f) :=
  ⟨PT.conseq (pt_not h.run) fun σ H Q ⟨θ, G, ρ, Ws, q⟩ => ⟨θ, G, ρ, Ws, (Tk.bind q).imp fun c H1 ⟨G1, _, e, q1⟩ => q1.val⟩⟩
theorem DW.dt {f : List Sl → R Bool} (h : DW X W a f) : DT X W a f := ⟨h.run.pt⟩
theorem dw_and1 {f : List Sl → R Bool} (h : DT X W a f) : DW X W (.BoolOp .And [a] pos) f := ⟨pw_and1 h.run⟩
theorem dw_or1 {f : List Sl → R Bool} (h : DT X W a f) : DW X W (.BoolOp .Or [a] pos) f := ⟨pw_or1 h.run⟩
theorem dw_and {f f' : List Sl → R Bool} {rest : List Expr} (h : DT X W a f) (h' : DW X W (.BoolOp .And (b :: rest) pos) f') : DW X W (.BoolOp .And (a :: b :: rest) pos) (bAnd f f') :=
  ⟨PW.conseq (pw_and h.run h'.run) fun σ H Q ⟨θ, G, ρ, Ws, q⟩ => ⟨θ, G, ρ, Ws, (Tk.bind q).imp fun c H1 ⟨G1, _, e, q1⟩ => by
    cases c with
    | true => exact iteT ⟨θ, G1, ρ, Ws, q1⟩
    | false => exact iteF q1.val⟩⟩
theorem dw_or {f f' : List Sl → R Bool} {rest : List Expr} (h : DT X W a f) (h' : DW X W (.BoolOp .Or (b :: rest) pos) f') : DW X W (.BoolOp .Or (a :: b :: rest) pos) (bOr f f') :=
  ⟨PW.conseq (pw_or h.run h'.run) fun σ H Q ⟨θ, G, ρ, Ws, q⟩ => ⟨θ, G, ρ, Ws, (Tk.bind q).imp fun c H1 ⟨G1, _, e, q1⟩ => by
    cases c with
    | true => exact iteT q1.val
    | false => exact iteF ⟨θ, G1, ρ, Ws, q1⟩⟩⟩
/-- and, or, not as values; all parts True or False but the last one -/
def pAnd (f g : List Sl → R D) (ρ : List Sl) : R D := (f ρ).bind fun x => match x with
  | .bl true => g ρ
  | .bl false => .ok (.bl false)
  | _ => .st
def pOr (f g : List Sl → R D) (ρ : List Sl) : R D := (f ρ).bind fun x => match x with
  | .bl true => .ok (.bl true)
  | .bl false => g ρ
  | _ => .st
def notD : D → R D
  | .bl b => .ok (.bl !b)
  | _ => .st
theorem dp_one {op} (h : DZ Z X W a g) : DZ Z X W (.BoolOp op [a] pos) g := ⟨pe_one h.run⟩
theorem dp_and [ZOk Z] {rest : List Expr} (ha : DP X W a fa) (hb : DZ Z X W (.BoolOp .And (b :: rest) pos) fb) : DZ Z X W (.BoolOp .And (a :: b :: rest) pos) (pAnd fa fb) :=
  ⟨PE.conseq (pe_and ha.run hb.run) fun σ H Q ⟨θ, G, ρ, Ws, q⟩ => ⟨θ, G, ρ, Ws, (q.bind (Za := Zc)).imp fun x H1 ⟨d, G1, _, e, z, q1⟩ => by
    cases d with
    | bl b =>
      cases z
      cases b with
      | true => exact ⟨true, rfl, iteT ⟨θ, G1, ρ, Ws, q1⟩⟩
      | false => exact ⟨false, rfl, iteF (q1.val (ZOk.of q1.same (.bl false)))⟩
    | _ => exact q1.2.elim⟩⟩
theorem dp_or [ZOk Z] {rest : List Expr} (ha : DP X W a fa) (hb : DZ Z X W (.BoolOp .Or (b :: rest) pos) fb) : DZ Z X W (.BoolOp .Or (a :: b :: rest) pos) (pOr fa fb) :=
  ⟨PE.conseq (pe_or ha.run hb.run) fun σ H Q ⟨θ, G, ρ, Ws, q⟩ => ⟨θ, G, ρ, Ws, (q.bind (Za := Zc)).imp fun x H1 ⟨d, G1, _, e, z, q1⟩ => by
    cases d with
    | bl b =>
      cases z
      cases b with
      | true => exact ⟨true, rfl, iteT (q1.val (ZOk.of q1.same (.bl true)))⟩
      | false => exact ⟨false, rfl, iteF ⟨θ, G1, ρ, Ws, q1⟩⟩
    | _ => exact q1.2.elim⟩⟩
theorem dp_not (ha : DP X W a fa) : DP X W (.UnaryOp .Not a pos) (p1 notD fa) :=
  ⟨PE.conseq (pe_not ha.run) fun σ H Q ⟨θ, G, ρ, Ws, q⟩ => ⟨θ, G, ρ, Ws, (q.bind (Za := Zc)).imp fun x H1 ⟨d, G1, _, e, z, q1⟩ => by
    cases d with
    | bl b => cases z; exact ⟨b, rfl, q1.val (.bl _)⟩
    | _ => exact q1.2.elim⟩⟩
def pIf (c : List Sl → R Bool) (f g : List Sl → R D) (ρ : List Sl) : R D := (c ρ).bind fun b => if b then f ρ else g ρ
theorem dp_if {t : List Sl → R Bool} (hc : DT X W c t) (ha : DZ Z X W a fa) (hb : DZ Z X W b fb) : DZ Z X W (.IfExp c a b pos) (pIf t fa fb) :=
  ⟨PE.conseq (pe_ifExp hc.run ha.run hb.run) fun σ H Q ⟨θ, G, ρ, Ws, q⟩ => ⟨θ, G, ρ, Ws, (Pk.tk q).imp fun c H1 ⟨G1, _, e, q1⟩ => by
    cases c with
    | true => exact iteT ⟨θ, G1, ρ, Ws, q1⟩
    | false => exact iteF ⟨θ, G1, ρ, Ws, q1⟩⟩⟩

/-! ### several values -/
def Ak (K : Fg) (W : WX) (σ : L2.St) (θ : Nat → Addr) (G : Hp) (ρ : List Sl) (Ws : List Addr) (H : Hp) (r : R (List D)) (Q : List V → Hp → Prop) : Prop :=
  Stt K θ G H σ ρ Ws ∧ match r with
    | .ok ds => ∀ vs G' H', Ext G H G' H' → RpA K G' vs ds → Q vs H'
    | .ex x => ∀ d G' H', Ext G H G' H' → XkOk K G' H' x d → W (.ref x.cls) d σ H'
    | .st => False
def tA (K : Fg) (W : WX) (g : List Sl → R (List D)) : TA := fun σ H Q => ∃ θ G ρ Ws, Ak K W σ θ G ρ Ws H (g ρ) Q
structure DA (X : Cx) (W : WX) (es : List Expr) (g : List Sl → R (List D)) : Prop where
  run : PA X es (tA X.K W g)
def aNil (_ : List Sl) : R (List D) := .ok []
def aCons (f : List Sl → R D) (g : List Sl → R (List D)) (ρ : List Sl) : R (List D) := (f ρ).bind fun x => (g ρ).bind fun xs => .ok (x :: xs)
section
variable {K : Fg} {σ : L2.St} {θ : Nat → Addr} {G H G1 H1 : Hp} {ρ : List Sl} {Ws : List Addr} {r : R (List D)} {Q Q' : List V → Hp → Prop}
theorem Ak.ext (h : Ak K W σ θ G ρ Ws H r Q) (e : Ext G H G1 H1) : Ak K W σ θ G1 ρ Ws H1 r Q := by
  refine ⟨h.1.ext e, ?_⟩
  have h2 := h.2
  cases r with
  | ok d => exact fun v G' H' e' z => h2 v G' H' (e.trans e') z
  | ex x => exact fun v G' H' e' z => h2 v G' H' (e.trans e') z
  | st => exact h2
theorem Ak.imp (h : Ak K W σ θ G ρ Ws H r Q) (q : ∀ v H', Q v H' → Q' v H') : Ak K W σ θ G ρ Ws H r Q' := by
  refine ⟨h.1, ?_⟩
  have h2 := h.2
  cases r with
  | ok d => exact fun v G' H' e' z => q _ _ (h2 v G' H' e' z)
  | ex x => exact h2
  | st => exact h2
theorem Ak.pk {r : R D} {k : D → R (List D)} {Z : ZK} (h : Ak K W σ θ G ρ Ws H (r.bind k) Q) : Pk Z K W σ θ G ρ Ws H r (fun v H1 => ∃ d G1, r = .ok d ∧ Ext G H G1 H1 ∧ Z K G1 H1 v d ∧ Ak K W σ θ G1 ρ Ws H1 (k d) Q) := by
  refine ⟨h.1, ?_⟩
  cases r with
  | ok d => exact fun v G' H' e' z => ⟨d, G', rfl, e', z, Ak.ext h e'⟩
  | ex x => exact h.2
  | st => exact h.2
theorem Ak.bind {k : List D → R (List D)} (h : Ak K W σ θ G ρ Ws H (r.bind k) Q) : Ak K W σ θ G ρ Ws H r (fun v H1 => ∃ d G1, r = .ok d ∧ Ext G H G1 H1 ∧ RpA K G1 v d ∧ Ak K W σ θ G1 ρ Ws H1 (k d) Q) := by
  refine ⟨h.1, ?_⟩
  cases r with
  | ok d => exact fun v G' H' e' z => ⟨d, G', rfl, e', z, Ak.ext h e'⟩
  | ex x => exact h.2
  | st => exact h.2
theorem Pk.ak {r : R (List D)} {k : List D → R D} {Z : ZK} {Q : VK} (h : Pk Z K W σ θ G ρ Ws H (r.bind k) Q) : Ak K W σ θ G ρ Ws H r (fun v H1 => ∃ d G1, r = .ok d ∧ Ext G H G1 H1 ∧ RpA K G1 v d ∧ Pk Z K W σ θ G1 ρ Ws H1 (k d) Q) := by
  refine ⟨h.1, ?_⟩
  cases r with
  | ok d => exact fun v G' H' e' z => ⟨d, G', rfl, e', z, Pk.ext h e'⟩
  | ex x => exact h.2
  | st => exact h.2
end
theorem da_nil : DA X W [] aNil := ⟨PA.conseq pa_nil fun σ H Q ⟨θ, G, ρ, Ws, q⟩ => q.2 _ _ _ (Ext.refl q.1.same) .nil⟩
theorem da_cons {es : List Expr} {ga : List Sl → R (List D)} (h : DP X W e g) (t : DA X W es ga) (hs : starEach (e :: es) X.env = (false, eval e X.env) :: starEach es X.env := by rfl) : DA X W (e :: es) (aCons g ga) :=
  ⟨PA.conseq (pa_cons h.run t.run hs) fun σ H Q ⟨θ, G, ρ, Ws, q⟩ => ⟨θ, G, ρ, Ws, (Ak.pk (Z := Zc) q).imp fun v H1 ⟨d, G1, _, e1, z, q1⟩ => ⟨θ, G1, ρ, Ws, (Ak.bind q1).imp fun vs H2 ⟨ds, G2, _, e2, z2, q2⟩ =>
    q2.2 _ _ _ (Ext.refl q2.1.same) (.cons (Rp.mono e2.g z) z2)⟩⟩⟩
/-- small enough for a list -/
def fits {α : Type} (xs : List α) : Bool := decide (xs.length ≤ sizeLine)
def mkT (ds : List D) : R D := if fits ds then .ok (.tup ds) else .st
def mkL (ds : List D) : R D := if fits ds then .ok (.lst ds) else .st
def pA (f : List D → R D) (g : List Sl → R (List D)) (ρ : List Sl) : R D := (g ρ).bind f
theorem dp_tup {es : List Expr} {ga : List Sl → R (List D)} {x1} (h : DA X W es ga) : DP X W (.Tuple es x1 pos) (pA mkT ga) :=
  ⟨PE.conseq (pe_tupX h.run) fun σ H Q ⟨θ, G, ρ, Ws, q⟩ => ⟨θ, G, ρ, Ws, (Pk.ak q).imp fun vs H1 ⟨ds, G1, _, e1, z, q1⟩ => by
    unfold mkT at q1
    by_cases hf : fits ds = true
    · rw [if_pos hf] at q1
      exact ⟨by rw [z.length]; exact of_decide_eq_true hf, fun p o hp ho => q1.new hp (new_tup hp ho q1.same z)⟩
    · rw [if_neg hf] at q1; exact q1.2.elim⟩⟩

/-! ### a new list of one's own -/
def Fk (K : Fg) (W : WX) (σ : L2.St) (θ : Nat → Addr) (G : Hp) (ρ : List Sl) (Ws : List Addr) (H : Hp) (r : R D) (Q : VK) : Prop :=
  Stt K θ G H σ ρ Ws ∧ match r with
    | .ok (.lst ds) => ∀ p vs G' H', Ext G H G' H' → H p = none → G' p = none → H' p = some (.lst vs) → RpA K G' vs ds → Q (.ref p) H'
    | .ok _ => False
    | .ex x => ∀ d G' H', Ext G H G' H' → XkOk K G' H' x d → W (.ref x.cls) d σ H'
    | .st => False
def tF (K : Fg) (W : WX) (g : List Sl → R D) : TE := fun σ H Q => ∃ θ G ρ Ws, Fk K W σ θ G ρ Ws H (g ρ) Q
structure DF (X : Cx) (W : WX) (e : Expr) (g : List Sl → R D) : Prop where
  run : PE X e (tF X.K W g)
def isL : D → R D
  | .lst ds => .ok (.lst ds)
  | _ => .st
theorem Ext.froze {G H G' H' : Hp} {p : Addr} {o : HO} (e : Ext G H G' H') (h0 : H p = none) (g0 : G' p = none) (h1 : H' p = some o) : Ext G H (upd G' p o) H' := by
  refine ⟨e.g.trans (same_upd g0), e.h, fun b u q => ?_, fun b u q => ?_⟩
  · by_cases hb : b = p
    · subst hb; rw [upd_same] at q; cases q; exact h1
    · rw [upd_ne hb] at q; exact e.s b u q
  · by_cases hb : b = p
    · subst hb; exact .inr h0
    · rw [upd_ne hb] at q; exact e.nw b u q
theorem tF_of {K : Fg} {σ : L2.St} {H : Hp} {Q : VK} (h : tZ Zc K W (p1 isL g) σ H Q) : tF K W g σ H Q := by
  obtain ⟨θ, G, ρ, Ws, q⟩ := h
  exact ⟨θ, G, ρ, Ws, q.1, by
  have q2 := q.2
  unfold p1 at q2
  cases hg : g ρ with
  | ok d =>
    rw [hg] at q2
    cases d with
    | lst ds => exact fun p vs G' H' e h0 g0 h1 r => q2 _ _ _ (e.froze h0 g0 h1) (.lst upd_same (r.mono (same_upd g0)))
    | _ => exact q2
  | ex x => rw [hg] at q2; exact q2
  | st => rw [hg] at q2; exact q2⟩
theorem DF.dp (h : DF X W e g) : DP X W e (p1 isL g) := ⟨PE.conseq h.run fun _ _ _ => tF_of⟩
theorem df_lst {es : List Expr} {ga : List Sl → R (List D)} (h : DA X W es ga) : DF X W (.List es pos) (pA mkL ga) :=
  ⟨PE.conseq (pe_lst h.run) fun σ H Q ⟨θ, G, ρ, Ws, q⟩ => ⟨θ, G, ρ, Ws, q.1, by
    have q2 := q.2
    unfold pA at q2
    cases hg : ga ρ with
    | ok ds =>
      rw [hg] at q2
      have q2 : match mkL ds with | .ok (.lst ds) => ∀ p vs G' H', Ext G H G' H' → H p = none → G' p = none → H' p = some (.lst vs) → RpA X.K G' vs ds → Q (.ref p) H' | .ok _ => False | .ex x => ∀ d G' H', Ext G H G' H' → XkOk X.K G' H' x d → W (.ref x.cls) d σ H' | .st => False := q2
      intro vs G1 H1 e1 z
      unfold mkL at q2
      by_cases hf : fits ds = true
      · rw [if_pos hf] at q2
        refine ⟨by rw [z.length]; exact of_decide_eq_true hf, fun p hp => q2 p vs G1 _ (e1.trans (Ext.aside e1.s hp)) (e1.h.free hp) (e1.s.free hp) upd_same z⟩
      · rw [if_neg hf] at q2; exact q2.elim
    | ex x => rw [hg] at q2; exact q2
    | st => rw [hg] at q2; exact q2⟩⟩
theorem dp_lst {es : List Expr} {ga : List Sl → R (List D)} (h : DA X W es ga) : DP X W (.List es pos) (p1 isL (pA mkL ga)) := (df_lst h).dp
end
end DL

set_option Elab.async false
set_option linter.all false
set_option maxRecDepth 100000
set_option maxHeartbeats 2000000
/-! The data layer, third part: operators and built-ins over data. -/
namespace DL
open PySem PySem.Spec PyProof.Rows L2

section
variable {K : Fg} {G H : Hp} {W : WX} {σ : L2.St} {θ : Nat → Addr} {ρ : List Sl} {Ws : List Addr} {Q : VK} {v : V}
/-- an end that is not there -/
theorem Pk.no {Z : ZK} {C : Prop} (h : Pk Z K W σ θ G ρ Ws H .st Q) : C := h.2.elim
end

/-! ### tuples made of tuples and lists -/
section
variable {X : Cx}
def rCatX (K : Fg) : R2 := fun x y H Q => ∃ a b xs ys, x = .ref a ∧ y = .ref b ∧ SqT K H a xs ∧ SqT K H b ys ∧ xs.length + ys.length ≤ sizeLine ∧
  (xs = [] → Q (.ref b) H) ∧ (xs ≠ [] → ys = [] → Q (.ref a) H) ∧ (xs ≠ [] → ys ≠ [] → ∀ p o, H p = none → o.dict = none → Q (.ref p) (upd H p (.frz o (.tup (xs ++ ys)))))
theorem op_catX : OpR X (binaryOp .Add) (rCatX X.K) := by
  intro pins s σ H x y v u Q I rx ry h
  obtain ⟨a, b, xs, ys, rfl, rfl, ha, hb, hz, q0, q1, q2⟩ := h
  cases rx
  cases ry
  obtain ⟨its, r1, p1, _⟩ := I.tuple ha
  obtain ⟨its2, r2, p2, _⟩ := I.tuple hb
  by_cases hx : xs = []
  · subst hx
    cases r1
    exact cat_tup0 p1 p2 ⟨.ref b, H, I, rfl, q0 rfl⟩
  · refine HT.cat_tup p1 p2 (fun z => hx (r1.nil_iff.mp z)) (fun z => ⟨.ref a, H, I, rfl, q1 hx (r2.nil_iff.mp z)⟩) (fun z => ?_) (by rw [← r1.length, ← r2.length]; exact hz)
    exact ⟨.ref s.heap.objs.size, _, tup_laid (t' := s.toks) I (by rw [List.length_append]; exact hz) (r1.append r2), rfl, q2 hx (fun w => z (r2.nil_iff.mpr w)) _ _ (I.hok.fresh (Nat.le_refl _)) rfl⟩
def rSlX (K : Fg) : V → Option Int → Option Int → Hp → VK → Prop := fun x lo hi H Q => ∃ a xs, x = .ref a ∧ SqT K H a xs ∧
  (HT.sIx xs.length 0 lo = 0 ∧ HT.sIx xs.length xs.length hi = xs.length → Q (.ref a) H) ∧ (¬ (HT.sIx xs.length 0 lo = 0 ∧ HT.sIx xs.length xs.length hi = xs.length) → ∀ p o, H p = none → o.dict = none → Q (.ref p) (upd H p (.frz o (.tup (cutV xs lo hi)))))
theorem sl_tupX : SlR X (rSlX X.K) := by
  intro pins s σ H x v vl vu lo hi sl Q I rx hs pl pu h
  obtain ⟨a, xs, rfl, hx, q1, q2⟩ := h
  cases rx
  obtain ⟨its, r, ht, hz⟩ := I.tuple hx
  have hl : its.toArray.size = xs.length := by rw [List.size_toArray]; exact r.length.symm
  by_cases hw : HT.sIx xs.length 0 lo = 0 ∧ HT.sIx xs.length xs.length hi = xs.length
  · exact ⟨"tuple", _, PyProof.Rows.slot_tuple_getitem.lookup, ht.typeIs, getItem_tuple_whole ht hs pl pu (by rw [hl]; exact hw) ⟨.ref a, H, I, rfl, q1 hw⟩⟩
  · refine ⟨"tuple", _, PyProof.Rows.slot_tuple_getitem.lookup, ht.typeIs, HT.getItem_tuple_cut ht hs pl pu (by rw [hl]; exact hw) ?_ (by rw [hl]; exact hz)⟩
    rw [hl]
    exact ⟨.ref s.heap.objs.size, _, tup_laid (t' := s.toks) I (Nat.le_trans (cutV_length xs lo hi) hz) ((r.drop (HT.sIx xs.length 0 lo)).take (HT.sIx xs.length xs.length hi - HT.sIx xs.length 0 lo)), rfl, q2 hw _ _ (I.hok.fresh (Nat.le_refl _)) rfl⟩
def rTupX (K : Fg) : List V → Hp → VK → Prop := fun xs H Q => ∃ p ys, xs = [.ref p] ∧ ((SqL K H p ys ∧ ∀ l o, H l = none → o.dict = none → Q (.ref l) (upd H l (.frz o (.tup ys)))) ∨ (SqT K H p ys ∧ Q (.ref p) H))
theorem call_tupX : CallR X (.type "tuple") (rTupX X.K) := by
  intro pins s σ H xs us Q I r h
  obtain ⟨p, ys, rfl, h⟩ := h
  obtain ⟨u, rfl, rx⟩ := vals1 r
  cases rx
  rcases h with ⟨hq, q⟩ | ⟨hq, q⟩
  · obtain ⟨its, r', pl, hz⟩ := I.list hq
    have hlen := r'.length
    refine call_tuple_list pl.isList (fun h' kp => ?_) (by simp only [List.size_toArray] <;> omega)
    have I1 : Inv X pins σ H { s with heap := h' } := I.kept (t' := s.toks) kp
    exact ⟨.ref h'.objs.size, _, tup_laid (t' := s.toks) I1 hz r', rfl, q _ _ (I1.hok.fresh (Nat.le_refl _)) rfl⟩
  · obtain ⟨its, r', pl, hz⟩ := I.tuple hq
    exact call_tuple_same pl ⟨.ref p, H, I, rfl, q⟩
end

/-! ### arithmetic -/
def addD : D → D → R D
  | .int i, .int j => .ok (.int (i + j))
  | .str s, .str t => if s.length + t.length ≤ sizeLine then .ok (.str (s ++ t)) else .st
  | .tup xs, .tup ys => if xs.length + ys.length ≤ sizeLine then .ok (.tup (xs ++ ys)) else .st
  | .lst xs, .lst ys => if xs.length + ys.length ≤ sizeLine then .ok (.lst (xs ++ ys)) else .st
  | _, _ => .st
def rAddA (K : Fg) : R2 := fun x y H Q => (rI0 fun i j => .int (i + j)) x y H Q ∨ (∃ i j, x = .str i ∧ y = .str j ∧ i.length + j.length ≤ sizeLine ∧ Q (.str (i ++ j)) H) ∨ rCatX K x y H Q ∨ rCat x y H Q
theorem opA_add {X : Cx} : OpR X (binaryOp .Add) (rAddA X.K) := OpR.or op_add (OpR.or op_add_str (OpR.or op_catX op_cat))
theorem od_add {K : Fg} : Op2 K Zh Zh (rAddA K) addD := by
  intro W σ θ G ρ Ws H x y a b Q hx hy q
  have s := q.same
  unfold addD at q
  split at q
  · exact .inl ⟨_, _, hx.int, hy.int, q.val (.int _)⟩
  · split at q
    · rename_i h; exact .inr (.inl ⟨_, _, hx.str, hy.str, h, q.val (.str _)⟩)
    · exact q.no
  · split at q
    · rename_i xs ys h
      obtain ⟨a, vs, rfl, h1, r1⟩ := hx.tup s
      obtain ⟨b, us, rfl, h2, r2⟩ := hy.tup s
      have hz : vs.length + us.length ≤ sizeLine := by rw [r1.length, r2.length]; exact h
      refine .inr (.inr (.inl ⟨a, b, vs, us, rfl, rfl, h1.t, h2.t, hz, fun e => ?_, fun _ e => ?_, fun _ _ p o hp ho => ?_⟩))
      · subst e
        cases r1
        rcases hy with hy | ⟨_, _, _, _, h3, _⟩
        · exact q.val hy
        · cases h3
      · subst e
        cases r2
        rcases hx with hx | ⟨_, _, _, _, h3, _⟩
        · rw [List.append_nil] at q; exact q.val hx
        · cases h3
      · exact q.new hp (new_tup hp ho s (r1.append r2))
    · exact q.no
  · split at q
    · rename_i xs ys h
      obtain ⟨a, vs, rfl, h1, r1⟩ := hx.lst s
      obtain ⟨b, us, rfl, h2, r2⟩ := hy.lst s
      exact .inr (.inr (.inr ⟨a, b, vs, us, rfl, rfl, h1, h2, by rw [r1.length, r2.length]; exact h, fun p hp => q.new hp (new_lst hp s (r1.append r2))⟩))
    · exact q.no
  · exact q.no
theorem od_int2 {K : Fg} {g : Int → Int → Int} {C : Int → Int → Prop} [∀ i j, Decidable (C i j)] : Op2 K Zh Zh (rI C fun i j => .int (g i j)) (fun x y => match x, y with
    | .int i, .int j => if C i j then .ok (.int (g i j)) else .st
    | _, _ => .st) := by
  intro W σ θ G ρ Ws H x y a b Q hx hy q
  dsimp only at q
  split at q
  · split at q
    · rename_i h; exact ⟨_, _, hx.int, hy.int, h, q.val (.int _)⟩
    · exact q.no
  · exact q.no
theorem od_int20 {K : Fg} {g : Int → Int → Int} : Op2 K Zh Zh (rI0 fun i j => .int (g i j)) (fun x y => match x, y with
    | .int i, .int j => .ok (.int (g i j))
    | _, _ => .st) := by
  intro W σ θ G ρ Ws H x y a b Q hx hy q
  dsimp only at q
  split at q
  · exact ⟨_, _, hx.int, hy.int, q.val (.int _)⟩
  · exact q.no
theorem od_intB {K : Fg} {g : Int → Int → Bool} : Op2 K Zh Zh (rI0 fun i j => .bl (g i j)) (fun x y => match x, y with
    | .int i, .int j => .ok (.bl (g i j))
    | _, _ => .st) := by
  intro W σ θ G ρ Ws H x y a b Q hx hy q
  dsimp only at q
  split at q
  · exact ⟨_, _, hx.int, hy.int, q.val (.bl _)⟩
  · exact q.no
def subD : D → D → R D := fun x y => match x, y with
  | .int i, .int j => .ok (.int (i - j))
  | _, _ => .st
def iMul (i j : Int) : Bool := (decide (-(2 ^ 64) < i) && decide (i < 2 ^ 64)) || (decide (-(2 ^ 64) < j) && decide (j < 2 ^ 64))
def mulD : D → D → R D := fun x y => match x, y with
  | .int i, .int j => if iMul i j then .ok (.int (i * j)) else .st
  | .lst xs, .int k => if 0 ≤ k ∧ k < 2 ^ 63 ∧ xs.length * k.toNat ≤ sizeLine then .ok (.lst (List.replicate k.toNat xs).flatten) else .st
  | _, _ => .st
theorem od_sub {K : Fg} : Op2 K Zh Zh (rI0 fun i j => .int (i - j)) subD := od_int20
theorem RpA.rep {K : Fg} {G : Hp} {vs : List V} {ds : List D} (r : RpA K G vs ds) : ∀ n : Nat, RpA K G (List.replicate n vs).flatten (List.replicate n ds).flatten
  | 0 => .nil
  | n + 1 => by
    rw [List.replicate_succ, List.replicate_succ, List.flatten_cons, List.flatten_cons]
    exact r.append (RpA.rep r n)
theorem opA_mul {X : Cx} : OpR X (binaryOp .Mult) (fun x y H Q => (rI CMul fun i j => .int (i * j)) x y H Q ∨ rRep x y H Q) := OpR.or op_mul op_rep
theorem od_mul {K : Fg} : Op2 K Zh Zh (fun x y H Q => (rI CMul fun i j => .int (i * j)) x y H Q ∨ rRep x y H Q) mulD := by
  intro W σ θ G ρ Ws H x y a b Q hx hy q
  have s := q.same
  unfold mulD at q
  split at q
  · split at q
    · rename_i i j h
      unfold iMul at h
      simp only [Bool.or_eq_true, Bool.and_eq_true, decide_eq_true_eq] at h
      exact .inl ⟨_, _, hx.int, hy.int, h, q.val (.int _)⟩
    · exact q.no
  · split at q
    · rename_i xs k h
      obtain ⟨a, vs, rfl, h1, r1⟩ := hx.lst s
      exact .inr ⟨a, k, vs, rfl, hy.int, h1, by omega, h.2.1, by rw [r1.length]; exact h.2.2, fun p hp => q.new hp (new_lst hp s (r1.rep _))⟩
    · exact q.no
  · exact q.no
def fdivD : D → D → R D := fun x y => match x, y with
  | .int i, .int j => if 0 < j ∧ j < 1073741824 then .ok (.int (i / j)) else .st
  | _, _ => .st
theorem od_fdiv {K : Fg} : Op2 K Zh Zh (rI CDiv fun i j => .int (i / j)) fdivD := by
  intro W σ θ G ρ Ws H x y a b Q hx hy q
  unfold fdivD at q
  split at q
  · split at q
    · rename_i h; exact ⟨_, _, hx.int, hy.int, h, q.val (.int _)⟩
    · exact q.no
  · exact q.no
def modD : D → D → R D := fun x y => match x, y with
  | .int i, .int j => if 0 < j then .ok (.int (i % j)) else .st
  | _, _ => .st
theorem od_mod {K : Fg} : Op2 K Zh Zh (rI (fun _ j => 0 < j) fun i j => .int (i % j)) modD := by
  intro W σ θ G ρ Ws H x y a b Q hx hy q
  unfold modD at q
  split at q
  · split at q
    · rename_i h; exact ⟨_, _, hx.int, hy.int, h, q.val (.int _)⟩
    · exact q.no
  · exact q.no
def powD : D → D → R D := fun x y => match x, y with
  | .int i, .int j => if 0 ≤ j ∧ j ≤ 1000000 ∧ i.natAbs < 2 ^ 64 then .ok (.int (i ^ j.toNat)) else .st
  | _, _ => .st
theorem od_pow {K : Fg} : Op2 K Zh Zh (rI CPow fun i j => .int (i ^ j.toNat)) powD := by
  intro W σ θ G ρ Ws H x y a b Q hx hy q
  unfold powD at q
  split at q
  · split at q
    · rename_i h; exact ⟨_, _, hx.int, hy.int, h, q.val (.int _)⟩
    · exact q.no
  · exact q.no
def ltD : D → D → R D := fun x y => match x, y with
  | .int i, .int j => .ok (.bl (decide (i < j)))
  | _, _ => .st
def leD : D → D → R D := fun x y => match x, y with
  | .int i, .int j => .ok (.bl (decide (i ≤ j)))
  | _, _ => .st
def gtD : D → D → R D := fun x y => match x, y with
  | .int i, .int j => .ok (.bl (decide (j < i)))
  | _, _ => .st
def geD : D → D → R D := fun x y => match x, y with
  | .int i, .int j => .ok (.bl (decide (j ≤ i)))
  | _, _ => .st
theorem od_lt {K : Fg} : Op2 K Zh Zh (rI0 fun i j => .bl (decide (i < j))) ltD := od_intB
theorem od_le {K : Fg} : Op2 K Zh Zh (rI0 fun i j => .bl (decide (i ≤ j))) leD := od_intB
theorem od_gt {K : Fg} : Op2 K Zh Zh (rI0 fun i j => .bl (decide (j < i))) gtD := od_intB
theorem od_ge {K : Fg} : Op2 K Zh Zh (rI0 fun i j => .bl (decide (j ≤ i))) geD := od_intB
def negD : D → R D
  | .int i => .ok (.int (-i))
  | _ => .st
theorem od_neg {K : Fg} : Op1 K Zh (rU fun i => .int (-i)) negD := by
  intro W σ θ G ρ Ws H x a Q hx q
  unfold negD at q
  split at q
  · exact ⟨_, hx.int, q.val (.int _)⟩
  · exact q.no

/-! ### ==, in, is None -/
def D.sh (d : D) : Bool := d.pure && SeqAt.shaped d.py
def strEq (neg : Bool) (x y : D) : R D := match x, y with
  | .str s, .str t => .ok (.bl (neg ^^ decide (s = t)))
  | _, _ => .st
def eqD (x y : D) : R D := if x.sh && y.sh then .ok (.bl (PyData.eqv x.py y.py)) else strEq false x y
def neD (x y : D) : R D := if x.sh && y.sh then .ok (.bl (!PyData.eqv x.py y.py)) else strEq true x y
def rEqX (K : Fg) : R2 := fun x y H Q => rEqD K x y H Q ∨ rEq x y H Q
def rNeX (K : Fg) : R2 := fun x y H Q => rNeD K x y H Q ∨ rNe x y H Q
theorem op_eqX {X : Cx} (hu : X.A.units + 64 < cLine) : OpR X (compareOp .Eq) (rEqX X.K) := OpR.or (op_eqD hu) op_eq
theorem op_neX {X : Cx} (hu : X.A.units + 64 < cLine) : OpR X (compareOp .NotEq) (rNeX X.K) := OpR.or (op_neD hu) op_ne
theorem rp_str {K : Fg} {H : Hp} {x : V} {s : Str} (h : Rp K H x (.str s)) : x = .str s := by cases h; rfl
theorem dec_strV {s t : Str} : decide (V.str s = V.str t) = decide (s = t) := by
  rw [Bool.eq_iff_iff]
  simp
theorem sh_dp {K : Fg} {H : Hp} {v : V} {d : D} (r : Rp K H v d) (h : d.sh = true) : Dp K H v d.py ∧ SeqAt.shaped d.py = true := by
  unfold D.sh at h
  rw [Bool.and_eq_true] at h
  exact ⟨r.dp h.1, h.2⟩
theorem od_eq {K : Fg} : Op2 K Zd Zd (rEqX K) eqD := by
  intro W σ θ G ρ Ws H x y a b Q hx hy q
  unfold eqD at q
  split at q
  · rename_i h
    rw [Bool.and_eq_true] at h
    obtain ⟨d1, s1⟩ := sh_dp hx h.1
    obtain ⟨d2, s2⟩ := sh_dp hy h.2
    exact .inl ⟨_, _, d1, d2, s1, s2, q.val (.bl _)⟩
  · unfold strEq at q
    split at q
    · rename_i s t _
      rw [rp_str hx, rp_str hy]
      refine .inr ⟨rfl, ?_⟩
      rw [dec_strV]
      have z := q.val (.bl _)
      rwa [Bool.false_xor] at z
    · exact q.no
theorem od_ne {K : Fg} : Op2 K Zd Zd (rNeX K) neD := by
  intro W σ θ G ρ Ws H x y a b Q hx hy q
  unfold neD at q
  split at q
  · rename_i h
    rw [Bool.and_eq_true] at h
    obtain ⟨d1, s1⟩ := sh_dp hx h.1
    obtain ⟨d2, s2⟩ := sh_dp hy h.2
    exact .inl ⟨_, _, d1, d2, s1, s2, q.val (.bl _)⟩
  · unfold strEq at q
    split at q
    · rename_i s t _
      rw [rp_str hx, rp_str hy]
      refine .inr ⟨rfl, ?_⟩
      rw [dec_strV]
      have z := q.val (.bl _)
      rwa [Bool.true_xor] at z
    · exact q.no
/-- in a tuple -/
def rInT (K : Fg) (neg : Bool) : R2 := fun x y H Q => ∃ d ds, Dp K H x d ∧ Dp K H y (.tuple ds) ∧ SeqAt.shaped d = true ∧ SeqAt.shaped (.tuple ds) = true ∧ Q (.bl (if neg then !(ds.any fun z => PyData.eqv z d) else ds.any fun z => PyData.eqv z d)) H
theorem op_inT {X : Cx} (hu : X.A.units + 65 < cLine) : OpR X (compareOp .In) (rInT X.K false) := by
  intro pins s σ H x y v u Q I rx ry h
  obtain ⟨d, ds, hd, he, sd, se, q⟩ := h
  obtain ⟨as, r1⟩ := Dp.reads I d x v hd rx
  obtain ⟨bs, r2⟩ := Dp.reads I (.tuple ds) y u he ry
  exact SeqAt.in_tuple_reads r2 r1 (SeqAt.canLay_of_shaped se) (SeqAt.canLay_of_shaped sd) (room_in_shaped sd hu) ⟨.bl _, H, I, rfl, q⟩
theorem op_notInT {X : Cx} (hu : X.A.units + 65 < cLine) : OpR X (compareOp .NotIn) (rInT X.K true) := by
  intro pins s σ H x y v u Q I rx ry h
  obtain ⟨d, ds, hd, he, sd, se, q⟩ := h
  obtain ⟨as, r1⟩ := Dp.reads I d x v hd rx
  obtain ⟨bs, r2⟩ := Dp.reads I (.tuple ds) y u he ry
  exact SeqAt.notIn_tuple_reads r2 r1 (SeqAt.canLay_of_shaped se) (SeqAt.canLay_of_shaped sd) (room_in_shaped sd hu) ⟨.bl _, H, I, rfl, q⟩
/-- is there: a datum in a list or a tuple, a sign in a text -/
def inB (neg : Bool) (x y : D) : R D := match y with
  | .lst ds => if x.sh && (D.lst ds).sh then .ok (.bl (neg ^^ ds.any fun z => PyData.eqv z.py x.py)) else .st
  | .tup ds => if x.sh && (D.tup ds).sh then .ok (.bl (neg ^^ ds.any fun z => PyData.eqv z.py x.py)) else .st
  | .str z => (match x with
    | .str c => if c.cps.size = 1 then .ok (.bl (neg ^^ decide (c.cps.getD 0 0 ∈ z.cps.toList))) else .ok (.bl (neg ^^ !(Builtin.Str.occurrences z c 0 z.length 1).isEmpty))
    | _ => .st)
  | _ => .st
def inD : D → D → R D := inB false
def ninD : D → D → R D := inB true
def rInA (K : Fg) : R2 := fun x y H Q => rInD K x y H Q ∨ rInT K false x y H Q ∨ (∃ (c : Nat) (z : Str), x = .str ⟨#[c]⟩ ∧ y = .str z ∧ Q (.bl (decide (c ∈ z.cps.toList))) H) ∨ (∃ i j, x = .str i ∧ y = .str j ∧ Q (.bl (!(Builtin.Str.occurrences j i 0 j.length 1).isEmpty)) H)
def rNinA (K : Fg) : R2 := fun x y H Q => rNotInD K x y H Q ∨ rInT K true x y H Q ∨ (∃ (c : Nat) (z : Str), x = .str ⟨#[c]⟩ ∧ y = .str z ∧ Q (.bl (!decide (c ∈ z.cps.toList))) H) ∨ (∃ i j, x = .str i ∧ y = .str j ∧ Q (.bl (!(!(Builtin.Str.occurrences j i 0 j.length 1).isEmpty))) H)
theorem opA_in {X : Cx} (hu : X.A.units + 65 < cLine) : OpR X (compareOp .In) (rInA X.K) := OpR.or (op_inD hu) (OpR.or (op_inT hu) (OpR.or op_in_sign op_in_str))
theorem opA_nin {X : Cx} (hu : X.A.units + 65 < cLine) : OpR X (compareOp .NotIn) (rNinA X.K) := OpR.or (op_notInD hu) (OpR.or (op_notInT hu) (OpR.or op_notIn_sign op_notin_str))
theorem str_one {c : Str} (h : c.cps.size = 1) : c = ⟨#[c.cps.getD 0 0]⟩ := by
  obtain ⟨⟨l⟩⟩ := c
  match l, h with
  | [a], _ => rfl
theorem any_py (ds : List D) (x : PyData) : ((pyA ds).any fun z => PyData.eqv z x) = ds.any fun z => PyData.eqv z.py x := by
  rw [pyA_map, List.any_map]; rfl
theorem od_in {K : Fg} : Op2 K Zd Zd (rInA K) inD := by
  intro W σ θ G ρ Ws H x y a b Q hx hy q
  unfold inD inB at q
  split at q
  · rename_i ds
    split at q
    · rename_i h
      rw [Bool.and_eq_true] at h
      obtain ⟨d1, s1⟩ := sh_dp hx h.1
      obtain ⟨d2, s2⟩ := sh_dp hy h.2
      refine .inl ⟨_, pyA ds, d1, by simpa [D.py] using d2, s1, by simpa [D.py] using s2, ?_⟩
      rw [any_py]
      simpa using q.val (.bl _)
    · exact q.no
  · rename_i ds
    split at q
    · rename_i h
      rw [Bool.and_eq_true] at h
      obtain ⟨d1, s1⟩ := sh_dp hx h.1
      obtain ⟨d2, s2⟩ := sh_dp hy h.2
      refine .inr (.inl ⟨_, pyA ds, d1, by simpa [D.py] using d2, s1, by simpa [D.py] using s2, ?_⟩)
      rw [any_py]
      simpa using q.val (.bl _)
    · exact q.no
  · rename_i z
    cases hy
    split at q
    · rename_i c
      cases hx
      split at q
      · rename_i h
        have e := str_one h
        refine .inr (.inr (.inl ⟨_, z, congrArg V.str e, rfl, ?_⟩))
        simpa using q.val (.bl _)
      · refine .inr (.inr (.inr ⟨_, _, rfl, rfl, ?_⟩))
        simpa using q.val (.bl _)
    · exact q.no
  · exact q.no
theorem od_nin {K : Fg} : Op2 K Zd Zd (rNinA K) ninD := by
  intro W σ θ G ρ Ws H x y a b Q hx hy q
  unfold ninD inB at q
  split at q
  · rename_i ds
    split at q
    · rename_i h
      rw [Bool.and_eq_true] at h
      obtain ⟨d1, s1⟩ := sh_dp hx h.1
      obtain ⟨d2, s2⟩ := sh_dp hy h.2
      refine .inl ⟨_, pyA ds, d1, by simpa [D.py] using d2, s1, by simpa [D.py] using s2, ?_⟩
      rw [any_py]
      simpa using q.val (.bl _)
    · exact q.no
  · rename_i ds
    split at q
    · rename_i h
      rw [Bool.and_eq_true] at h
      obtain ⟨d1, s1⟩ := sh_dp hx h.1
      obtain ⟨d2, s2⟩ := sh_dp hy h.2
      refine .inr (.inl ⟨_, pyA ds, d1, by simpa [D.py] using d2, s1, by simpa [D.py] using s2, ?_⟩)
      rw [any_py]
      simpa using q.val (.bl _)
    · exact q.no
  · rename_i z
    cases hy
    split at q
    · rename_i c
      cases hx
      split at q
      · rename_i h
        have e := str_one h
        refine .inr (.inr (.inl ⟨_, z, congrArg V.str e, rfl, ?_⟩))
        simpa using q.val (.bl _)
      · refine .inr (.inr (.inr ⟨_, _, rfl, rfl, ?_⟩))
        simpa using q.val (.bl _)
    · exact q.no
  · exact q.no
def D.isNon : D → Bool
  | .non => true
  | _ => false
theorem isNon_v {K : Fg} {H : Hp} {v : V} {d : D} (h : Rp K H v d) : decide (v = .non) = d.isNon := by
  cases h <;> simp [D.isNon]
def isD (x y : D) : R D := match y with
  | .non => .ok (.bl x.isNon)
  | _ => .st
def isnD (x y : D) : R D := match y with
  | .non => .ok (.bl (!x.isNon))
  | _ => .st
theorem od_is {K : Fg} : Op2 K Zd Zd (fun x y H Q => y = .non ∧ Q (.bl (decide (x = .non))) H) isD := by
  intro W σ θ G ρ Ws H x y a b Q hx hy q
  unfold isD at q
  split at q
  · cases hy
    rw [isNon_v hx]
    exact ⟨rfl, q.val (.bl _)⟩
  · exact q.no
theorem od_isn {K : Fg} : Op2 K Zd Zd (fun x y H Q => y = .non ∧ Q (.bl (!decide (x = .non))) H) isnD := by
  intro W σ θ G ρ Ws H x y a b Q hx hy q
  unfold isnD at q
  split at q
  · cases hy
    rw [isNon_v hx]
    exact ⟨rfl, q.val (.bl _)⟩
  · exact q.no

/-! ### len, items, slices -/
def lenD : D → R D
  | .str s => if s.length ≤ sizeLine then .ok (.int s.length) else .st
  | .lst xs => .ok (.int xs.length)
  | .tup xs => .ok (.int xs.length)
  | .scr xs => .ok (.int xs.length)
  | _ => .st
theorem od_len {K : Fg} : Op1 K Zd (fun x H Q => ∃ y n, [x] = [y] ∧ LenV K y H n ∧ Q (.int n) H) lenD := by
  intro W σ θ G ρ Ws H x a Q hx q
  unfold lenD at q
  split at q
  · cases hx
    split at q
    · rename_i h; exact ⟨_, _, rfl, ⟨h, rfl⟩, q.val (.int _)⟩
    · exact q.no
  · cases hx with
    | lst h r => exact ⟨_, _, rfl, .inl ⟨_, SqL.of h, rfl⟩, by rw [r.length]; exact q.val (.int _)⟩
  · cases hx with
    | tup h r => exact ⟨_, _, rfl, .inr ⟨_, h.t, rfl⟩, by rw [r.length]; exact q.val (.int _)⟩
  · cases hx with
    | scr h => exact ⟨_, _, rfl, .inl ⟨_, h, rfl⟩, by rw [List.length_map]; exact q.val (.int _)⟩
  · exact q.no
theorem RpA.atI {K : Fg} {G : Hp} {vs : List V} {ds : List D} (r : RpA K G vs ds) {i : Int} {d : D} (h : L2.atI ds i = some d) : ∃ v, L2.atI vs i = some v ∧ Rp K G v d := by
  unfold L2.atI at h ⊢
  rw [r.length]
  cases e : ixN ds.length i with
  | none => rw [e] at h; cases h
  | some j => rw [e] at h; exact r.get h
def ixD (x y : D) : R D := match x, y with
  | .lst xs, .int i => (match atI xs i with | some d => .ok d | none => .st)
  | .tup xs, .int i => (match atI xs i with | some d => .ok d | none => .st)
  | .scr xs, .int i => (match atI xs i with | some d => .ok (.int d) | none => .st)
  | .str z, .int i => if z.length ≤ sizeLine then (match atI z.cps.toList i with | some c => .ok (.str ⟨#[c]⟩) | none => .st) else .st
  | _, _ => .st
def rIxA (K : Fg) : R2 := fun x y H Q => rIxL K x y H Q ∨ rIxT K x y H Q ∨ rIxS x y H Q
theorem ixA {X : Cx} : IxR X (rIxA X.K) := IxR.or ix_list (IxR.or ix_tup ix_str)
theorem od_ix {K : Fg} : Op2 K Zh Zh (rIxA K) ixD := by
  intro W σ θ G ρ Ws H x y a b Q hx hy q
  have s := q.same
  unfold ixD at q
  split at q
  · rename_i xs i
    split at q
    · rename_i d e
      obtain ⟨a, vs, rfl, h1, r1⟩ := hx.lst s
      obtain ⟨v, e1, r2⟩ := r1.atI e
      exact .inl ⟨a, vs, i, v, rfl, hy.int, SqL.of h1, e1, q.val r2⟩
    · exact q.no
  · rename_i xs i
    split at q
    · rename_i d e
      obtain ⟨a, vs, rfl, h1, r1⟩ := hx.tup s
      obtain ⟨v, e1, r2⟩ := r1.atI e
      exact .inr (.inl ⟨a, vs, i, v, rfl, hy.int, h1.t, e1, q.val r2⟩)
    · exact q.no
  · rename_i xs i
    split at q
    · rename_i d e
      rcases hx with hx | ⟨_, _, _, _, h3, _⟩
      · cases hx with
        | scr h =>
          obtain ⟨v, e1, r2⟩ := (RpA.ofInts (K := K) (G := G) xs).atI (d := .int d) (i := i) (by
            unfold L2.atI at e ⊢
            rw [List.length_map]
            cases e2 : ixN xs.length i with
            | none => rw [e2] at e; cases e
            | some j =>
              rw [e2] at e
              have e : xs[j]? = some d := e
              simp [e])
          exact .inl ⟨_, _, i, v, rfl, hy.int, s.seq h, e1, q.val r2⟩
      · cases h3
    · exact q.no
  · rename_i z i
    split at q
    · rename_i hz
      split at q
      · rename_i c e
        exact .inr (.inr ⟨z, i, c, hx.str, hy.int, hz, e, q.val (.str _)⟩)
      · exact q.no
    · exact q.no
  · exact q.no
/-- a part of a slice: left out, or an int -/
def oNone (_ : List Sl) : R (Option Int) := .ok none
def oSome (g : List Sl → R D) (ρ : List Sl) : R (Option Int) := (g ρ).bind fun d => match d with
  | .int i => .ok (some i)
  | _ => .st
def cutD {α : Type} (xs : List α) (lo hi : Option Int) : List α := (xs.drop (HT.sIx xs.length 0 lo)).take (HT.sIx xs.length xs.length hi - HT.sIx xs.length 0 lo)
theorem cutV_eq (xs : List V) (lo hi : Option Int) : cutV xs lo hi = cutD xs lo hi := rfl
theorem RpA.cut {K : Fg} {G : Hp} {vs : List V} {ds : List D} (r : RpA K G vs ds) (lo hi : Option Int) : RpA K G (cutV vs lo hi) (cutD ds lo hi) := by
  rw [cutV_eq]
  unfold cutD
  rw [r.length]
  exact (r.drop _).take _
theorem RpA.cutInts {K : Fg} {G : Hp} (ns : List Int) (lo hi : Option Int) : RpA K G (cutV (ns.map V.int) lo hi) ((cutD ns lo hi).map D.int) := by
  have r := (RpA.ofInts (K := K) (G := G) ns).cut lo hi
  have e : cutD (ns.map D.int) lo hi = (cutD ns lo hi).map D.int := by
    unfold cutD
    rw [List.length_map, List.map_take, List.map_drop]
  rw [e] at r
  exact r
def slD (x : D) (lo hi : Option Int) : R D := match x with
  | .lst xs => .ok (.lst (cutD xs lo hi))
  | .tup xs => .ok (.tup (cutD xs lo hi))
  | .scr xs => .ok (.lst ((cutD xs lo hi).map .int))
  | .str z => if z.length ≤ sizeLine then .ok (.str (cutS z lo hi)) else .st
  | _ => .st
def pSl (ga : List Sl → R D) (gl gh : List Sl → R (Option Int)) (ρ : List Sl) : R D := (ga ρ).bind fun x => (gl ρ).bind fun l => (gh ρ).bind fun h => slD x l h
def rSlAll (K : Fg) : V → Option Int → Option Int → Hp → VK → Prop := fun x lo hi H Q => rSlL K x lo hi H Q ∨ rSlX K x lo hi H Q ∨ rSlS x lo hi H Q
theorem slAll {X : Cx} : SlR X (rSlAll X.K) := SlR.or sl_list (SlR.or sl_tupX sl_str)
structure DO (X : Cx) (W : WX) (e : Option Expr) (g : List Sl → R (Option Int)) : Prop where
  run : PO X e fun σ H Q => ∃ θ G ρ Ws, Stt X.K θ G H σ ρ Ws ∧ match g ρ with
    | .ok d => ∀ G' H', Ext G H G' H' → Q d H'
    | .ex x => ∀ d G' H', Ext G H G' H' → XkOk X.K G' H' x d → W (.ref x.cls) d σ H'
    | .st => False
theorem PO.conseq {X : Cx} {e : Option Expr} {t t' : TO} (h : PO X e t) (w : ∀ σ H Q, t' σ H Q → t σ H Q) : PO X e t' := ⟨fun pins s σ H Q I q => h.run pins s σ H Q I (w _ _ _ q)⟩
section
variable {X : Cx} {W : WX} {e : Expr} {g : List Sl → R D} {pos p2 : Pos}
theorem do_none : DO X W none oNone := ⟨PO.conseq po_none fun σ H Q ⟨θ, G, ρ, Ws, s, q⟩ => q G H (Ext.refl s.same)⟩
theorem do_some (h : DP X W e g) : DO X W (some e) (oSome g) := ⟨PO.conseq (po_some h.run) fun σ H Q ⟨θ, G, ρ, Ws, s, q⟩ => ⟨θ, G, ρ, Ws, s, by
  unfold oSome at q
  cases hg : g ρ with
  | ok d =>
    rw [hg] at q
    cases d with
    | int i =>
      intro v G' H' e z
      cases z
      exact ⟨i, rfl, q G' H' e⟩
    | _ => exact q.elim
  | ex x => rw [hg] at q; exact q
  | st => rw [hg] at q; exact q⟩⟩
theorem cutD_whole {α : Type} (xs : List α) (lo hi : Option Int) (h : HT.sIx xs.length 0 lo = 0 ∧ HT.sIx xs.length xs.length hi = xs.length) : cutD xs lo hi = xs := by
  unfold cutD
  rw [h.1, h.2]
  simp
theorem dp_slice {lo hi : Option Expr} {gl gh : List Sl → R (Option Int)} (he : DQ X W e g) (hl : DO X W lo gl) (hh : DO X W hi gh) : DP X W (.Subscript e (.Slice lo hi none p2) pos) (pSl g gl gh) := by
  refine ⟨PE.conseq (pe_slice slAll he.run hl.run hh.run) fun σ H Q ⟨θ, G, ρ, Ws, q⟩ => ⟨θ, G, ρ, Ws, (q.bind (Za := Zh)).imp fun x H1 ⟨d, G1, _, e1, z, q1⟩ => ⟨θ, G1, ρ, Ws, q1.1, ?_⟩⟩⟩
  have q2 := q1.2
  cases hgl : gl ρ with
  | st => rw [hgl] at q2; exact q2
  | ex x => rw [hgl] at q2; exact q2
  | ok l =>
    rw [hgl] at q2
    intro G2 H2 e2
    have z2 : Zh X.K G2 H2 x d := ZOk.ext e2 z
    refine ⟨θ, G2, ρ, Ws, q1.1.ext e2, ?_⟩
    have q2 : match (gh ρ).bind fun h => slD d l h with | .ok d => ∀ v G' H', Ext G1 H1 G' H' → Zc X.K G' H' v d → Q v H' | .ex x => ∀ d G' H', Ext G1 H1 G' H' → XkOk X.K G' H' x d → W (.ref x.cls) d σ H' | .st => False := q2
    cases hgh : gh ρ with
    | st => rw [hgh] at q2; exact q2
    | ex x => rw [hgh] at q2; exact fun d G' H' e' => q2 d G' H' (e2.trans e')
    | ok h =>
      rw [hgh] at q2
      intro G3 H3 e3
      have z3 : Zh X.K G3 H3 x d := ZOk.ext e3 z2
      have q3 : Pk Zc X.K W σ θ G3 ρ Ws H3 (slD d l h) Q := Pk.ext (G := G1) (H := H1) ⟨q1.1, q2⟩ (e2.trans e3)
      have s := q3.same
      show rSlAll X.K x l h H3 Q
      unfold slD at q3
      split at q3
      · obtain ⟨a, vs, rfl, h1, r1⟩ := z3.lst s
        exact .inl ⟨a, vs, rfl, SqL.of h1, fun p hp => q3.new hp (new_lst hp s (r1.cut l h))⟩
      · obtain ⟨a, vs, rfl, h1, r1⟩ := z3.tup s
        refine .inr (.inl ⟨a, vs, rfl, h1.t, fun hw => ?_, fun hw p o hp ho => q3.new hp (new_tup hp ho s (r1.cut l h))⟩)
        rw [r1.length] at hw
        rw [cutD_whole _ _ _ hw] at q3
        rcases z3 with z3 | ⟨_, _, _, _, h5, _⟩
        · exact q3.val z3
        · cases h5
      · rcases z3 with z3 | ⟨_, _, _, _, h5, _⟩
        · cases z3 with
          | scr hq => exact .inl ⟨_, _, rfl, s.seq hq, fun p hp => q3.new hp (new_lst hp s (RpA.cutInts _ _ _))⟩
        · cases h5
      · split at q3
        · rename_i hz
          exact .inr (.inr ⟨_, z3.str, hz, q3.val (.str _)⟩)
        · exact q3.no
      · exact q3.no
end

/-! ### kinds -/
/-- the answer to isinstance of a built-in class -/
def isK (t : String) : D → R D
  | .non => .ok (.bl (t == "NoneType"))
  | .bl _ => .ok (.bl (t == "bool" || t == "int"))
  | .int _ => .ok (.bl (t == "int"))
  | .str _ => .ok (.bl (t == "str"))
  | .tup _ => .ok (.bl (t == "tuple"))
  | .lst _ => .ok (.bl (t == "list"))
  | .dct _ => .ok (.bl (t == "dict"))
  | _ => .st
/-- the four classes that are asked for -/
def known (t : String) : Bool := t == "tuple" || t == "str" || t == "int" || t == "bool" || t == "list"
theorem isK_ok {K : Fg} {H : Hp} {x : V} {d : D} {t : String} {b : Bool} (ht : known t = true) (hx : Rp K H x d) (e : isK t d = .ok (.bl b)) : ∃ u, TyX K H x u ∧ PySem.W.kitOne K u (.type t) = some b := by
  have ht' : t = "tuple" ∨ t = "str" ∨ t = "int" ∨ t = "bool" ∨ t = "list" := by
    simpa [known, or_assoc] using ht
  cases hx with
  | non => cases e; exact ⟨_, .base .non, by rcases ht' with rfl | rfl | rfl | rfl | rfl <;> exact kit_ty (by decide +kernel)⟩
  | bl c => cases e; exact ⟨_, .base (.bl c), by rcases ht' with rfl | rfl | rfl | rfl | rfl <;> exact kit_ty (by decide +kernel)⟩
  | int c => cases e; exact ⟨_, .base (.int c), by rcases ht' with rfl | rfl | rfl | rfl | rfl <;> exact kit_ty (by decide +kernel)⟩
  | str c => cases e; exact ⟨_, .base (.str c), by rcases ht' with rfl | rfl | rfl | rfl | rfl <;> exact kit_ty (by decide +kernel)⟩
  | tup h r =>
    cases e
    have k : PySem.W.kitOne K (.type "tuple") (.type t) = some (t == "tuple") := by rcases ht' with rfl | rfl | rfl | rfl | rfl <;> exact kit_ty (by decide +kernel)
    rcases h with ⟨o, h, _⟩ | ⟨o, its, n, h, hc, _⟩
    · exact ⟨_, .fTuple h, k⟩
    · exact ⟨_, .kTuple h hc, k⟩
  | lst h r => cases e; exact ⟨_, .base (.lst h), by rcases ht' with rfl | rfl | rfl | rfl | rfl <;> exact kit_ty (by decide +kernel)⟩
  | scr h => cases e
  | dct h r => cases e; exact ⟨_, .base (.dK h), by rcases ht' with rfl | rfl | rfl | rfl | rfl <;> exact kit_ty (by decide +kernel)⟩
  | ins _ _ _ => cases e
theorem od_isK {K : Fg} {t : String} (ht : known t = true) : Op1 K Zd (fun x H Q => rIsi K [x, .ty t] H Q) (isK t) := by
  intro W σ θ G ρ Ws H x a Q hx q
  have q0 := q
  cases e : isK t a with
  | ok d =>
    rw [e] at q
    have : ∃ b, d = .bl b := by
      cases a <;> simp [isK] at e <;> exact ⟨_, e.symm⟩
    obtain ⟨b, rfl⟩ := this
    obtain ⟨u, h1, h2⟩ := isK_ok ht hx e
    exact ⟨x, .ty t, u, _, b, rfl, .ty t, h1, h2, q.val (.bl _)⟩
  | ex x => cases a <;> simp [isK] at e
  | st => rw [e] at q; exact q.no

/-! ### over lists of truths and numbers -/
def boolsO : List D → Option (List Bool)
  | [] => some []
  | .bl b :: xs => (boolsO xs).map (b :: ·)
  | _ :: _ => none
def intsO : List D → Option (List Int)
  | [] => some []
  | .int b :: xs => (intsO xs).map (b :: ·)
  | _ :: _ => none
def strsO : List D → Option (List Str)
  | [] => some []
  | .str b :: xs => (strsO xs).map (b :: ·)
  | _ :: _ => none
theorem bools_eq : ∀ {xs : List D} {bs : List Bool}, boolsO xs = some bs → xs = bs.map D.bl
  | [], bs, h => by cases h; rfl
  | .bl b :: xs, bs, h => by
    simp only [boolsO, Option.map_eq_some_iff] at h
    obtain ⟨cs, h1, h2⟩ := h
    subst h2
    rw [bools_eq h1]; rfl
  | .non :: xs, bs, h | .int _ :: xs, bs, h | .str _ :: xs, bs, h | .tup _ :: xs, bs, h | .lst _ :: xs, bs, h | .scr _ :: xs, bs, h | .dct _ :: xs, bs, h | .ins _ _ :: xs, bs, h => by cases h
theorem ints_eq : ∀ {xs : List D} {bs : List Int}, intsO xs = some bs → xs = bs.map D.int
  | [], bs, h => by cases h; rfl
  | .int b :: xs, bs, h => by
    simp only [intsO, Option.map_eq_some_iff] at h
    obtain ⟨cs, h1, h2⟩ := h
    subst h2
    rw [ints_eq h1]; rfl
  | .non :: xs, bs, h | .bl _ :: xs, bs, h | .str _ :: xs, bs, h | .tup _ :: xs, bs, h | .lst _ :: xs, bs, h | .scr _ :: xs, bs, h | .dct _ :: xs, bs, h | .ins _ _ :: xs, bs, h => by cases h
theorem strs_eq : ∀ {xs : List D} {bs : List Str}, strsO xs = some bs → xs = bs.map D.str
  | [], bs, h => by cases h; rfl
  | .str b :: xs, bs, h => by
    simp only [strsO, Option.map_eq_some_iff] at h
    obtain ⟨cs, h1, h2⟩ := h
    subst h2
    rw [strs_eq h1]; rfl
  | .non :: xs, bs, h | .bl _ :: xs, bs, h | .int _ :: xs, bs, h | .tup _ :: xs, bs, h | .lst _ :: xs, bs, h | .scr _ :: xs, bs, h | .dct _ :: xs, bs, h | .ins _ _ :: xs, bs, h => by cases h
@[simp] theorem bools_map : ∀ bs : List Bool, boolsO (bs.map D.bl) = some bs
  | [] => rfl
  | b :: bs => by simp [boolsO, bools_map bs]
@[simp] theorem ints_map : ∀ bs : List Int, intsO (bs.map D.int) = some bs
  | [] => rfl
  | b :: bs => by simp [intsO, ints_map bs]
@[simp] theorem strs_map : ∀ bs : List Str, strsO (bs.map D.str) = some bs
  | [] => rfl
  | b :: bs => by simp [strsO, strs_map bs]
theorem RpA.bls {K : Fg} {G : Hp} {vs : List V} {ss : List Bool} (r : RpA K G vs (ss.map D.bl)) : vs = ss.map V.bl := by
  induction ss generalizing vs with
  | nil => cases r; rfl
  | cons s ss ih => cases r with
    | cons r t => cases r; simp [ih t]
def allD : D → R D
  | .lst xs => (match boolsO xs with | some bs => .ok (.bl (bs.all id)) | none => .st)
  | _ => .st
def anyD : D → R D
  | .lst xs => (match boolsO xs with | some bs => .ok (.bl (bs.any id)) | none => .st)
  | _ => .st
def sumD : D → R D
  | .lst xs => (match intsO xs with | some bs => .ok (.int bs.sum) | none => .st)
  | _ => .st
theorem od_all {K : Fg} : Op1 K Zh (fun x H Q => rAll K [x] H Q) allD := by
  intro W σ θ G ρ Ws H x a Q hx q
  have s := q.same
  unfold allD at q
  split at q
  · split at q
    · rename_i bs e
      obtain ⟨a, vs, rfl, h1, r1⟩ := hx.lst s
      rw [bools_eq e] at r1
      rw [r1.bls] at h1
      exact ⟨a, bs, rfl, SqL.of h1, q.val (.bl _)⟩
    · exact q.no
  · exact q.no
theorem od_any {K : Fg} : Op1 K Zh (fun x H Q => rAny K [x] H Q) anyD := by
  intro W σ θ G ρ Ws H x a Q hx q
  have s := q.same
  unfold anyD at q
  split at q
  · split at q
    · rename_i bs e
      obtain ⟨a, vs, rfl, h1, r1⟩ := hx.lst s
      rw [bools_eq e] at r1
      rw [r1.bls] at h1
      exact ⟨a, bs, rfl, SqL.of h1, q.val (.bl _)⟩
    · exact q.no
  · exact q.no
theorem od_sum {K : Fg} : Op1 K Zh (fun x H Q => rSum K [x] H Q) sumD := by
  intro W σ θ G ρ Ws H x a Q hx q
  have s := q.same
  unfold sumD at q
  split at q
  · split at q
    · rename_i bs e
      obtain ⟨a, vs, rfl, h1, r1⟩ := hx.lst s
      rw [ints_eq e] at r1
      rw [r1.ints] at h1
      exact ⟨a, bs, rfl, SqL.of h1, q.val (.int _)⟩
    · exact q.no
  · exact q.no

/-! ### numbers -/
def absD : D → R D
  | .int i => .ok (.int (if i < 0 then -i else i))
  | _ => .st
def intD : D → R D
  | .int i => .ok (.int i)
  | .bl b => .ok (.int (if b then 1 else 0))
  | _ => .st
def maxD : D → D → R D := fun x y => match x, y with
  | .int i, .int j => .ok (.int (if j > i then j else i))
  | _, _ => .st
def minD : D → D → R D := fun x y => match x, y with
  | .int i, .int j => .ok (.int (if j < i then j else i))
  | _, _ => .st
theorem od_abs {K : Fg} : Op1 K Zh (fun x H Q => ∃ i, [x] = [V.int i] ∧ Q (.int (if i < 0 then -i else i)) H) absD := by
  intro W σ θ G ρ Ws H x a Q hx q
  unfold absD at q
  split at q
  · exact ⟨_, by rw [hx.int], q.val (.int _)⟩
  · exact q.no
theorem od_intc {K : Fg} : Op1 K Zh (fun x H Q => (∃ i, [x] = [V.int i] ∧ Q (.int i) H) ∨ ∃ k, [x] = [V.bl k] ∧ Q (.int (if k then 1 else 0)) H) intD := by
  intro W σ θ G ρ Ws H x a Q hx q
  unfold intD at q
  split at q
  · exact .inl ⟨_, by rw [hx.int], q.val (.int _)⟩
  · exact .inr ⟨_, by rw [hx.bl], q.val (.int _)⟩
  · exact q.no
theorem od_max {K : Fg} : Op2 K Zh Zh (fun x y H Q => ∃ i j, [x, y] = [V.int i, V.int j] ∧ Q (.int (if j > i then j else i)) H) maxD := by
  intro W σ θ G ρ Ws H x y a b Q hx hy q
  unfold maxD at q
  split at q
  · exact ⟨_, _, by rw [hx.int, hy.int], q.val (.int _)⟩
  · exact q.no
theorem od_min {K : Fg} : Op2 K Zh Zh (fun x y H Q => ∃ i j, [x, y] = [V.int i, V.int j] ∧ Q (.int (if j < i then j else i)) H) minD := by
  intro W σ θ G ρ Ws H x y a b Q hx hy q
  unfold minD at q
  split at q
  · exact ⟨_, _, by rw [hx.int, hy.int], q.val (.int _)⟩
  · exact q.no
/-! ### lists and tuples from each other, places -/
def tupD : D → R D
  | .lst xs => .ok (.tup xs)
  | .tup xs => .ok (.tup xs)
  | _ => .st
theorem od_tup {K : Fg} : Op1 K Zh (fun x H Q => rTupX K [x] H Q) tupD := by
  intro W σ θ G ρ Ws H x a Q hx q
  have s := q.same
  unfold tupD at q
  split at q
  · obtain ⟨a, vs, rfl, h1, r1⟩ := hx.lst s
    exact ⟨a, vs, rfl, .inl ⟨SqL.of h1, fun p o hp ho => q.new hp (new_tup hp ho s r1)⟩⟩
  · obtain ⟨a, vs, rfl, h1, r1⟩ := hx.tup s
    refine ⟨a, vs, rfl, .inr ⟨h1.t, ?_⟩⟩
    rcases hx with hx | ⟨_, _, _, _, h5, _⟩
    · exact q.val hx
    · cases h5
  · exact q.no
/-- the place of the first equal item -/
def firstEq (ds : List D) (x : D) : Option Nat := ds.findIdx? fun z => PyData.eqv z.py x.py
end DL

set_option Elab.async false
set_option linter.all false
set_option maxRecDepth 100000
set_option maxHeartbeats 2000000
/-! The data layer, fourth part: what is walked; comprehensions. -/
namespace DL
open PySem PySem.Spec PyProof.Rows L2

/-! ### lists and tuples alike -/
section
variable {X : Cx} {tg l : Expr} {tl : TE}
def iSeq (K : Fg) (tl : TE) : TI := fun σ H R => tl σ H fun x H1 => (∃ a xs, x = .ref a ∧ SqL K H1 a xs ∧ R (Itl K a) H1) ∨ (∃ a xs, x = .ref a ∧ SqT K H1 a xs ∧ R (Itt K a) H1)
theorem fp_one {pins : List (Addr × Obj)} {σ : L2.St} {H : Hp} {s : Shared} (I : Inv X pins σ H s) : ∀ b ∈ [s.heap.objs.size], FpOk X pins H b := fun b hb => by
  rw [List.mem_singleton.mp hb]
  exact I.fpOk (Nat.le_refl _) (I.hok.fresh (Nat.le_refl _))
theorem pi_seq (hl : PE X l tl) : PI X tg l (iSeq X.K tl) := ⟨fun pins s σ H R I h => thn (hl.run pins s σ H _ I h) fun v s1 ⟨x, H1, I1, r1, q1⟩ => by
  have fp := fp_one I1
  rcases q1 with ⟨a, xs, e, hq, q⟩ | ⟨a, xs, e, hq, q⟩
  · subst e; cases r1
    obtain ⟨its, rv, p, hz⟩ := I1.list hq
    exact wpAny_pyIter_list p.isList ⟨_, _, _, _, H1, rfl, I1.kept (t' := s1.toks) (fun b o e => Heap.get?_push_of_some _ e), turn_list a _, ⟨_, Heap.get?_push_size _ rfl, rfl, rfl⟩, fp, q⟩
  · subst e; cases r1
    obtain ⟨its, rv, p, hz⟩ := I1.tuple hq
    exact wpAny_pyIter_tuple (show s1.heap.IsTuple a its.toArray from p) ⟨_, _, _, _, H1, rfl, I1.kept (t' := s1.toks) (fun b o e => Heap.get?_push_of_some _ e), turn_tuple a _, ⟨_, Heap.get?_push_size _ rfl, rfl, rfl⟩, fp, q⟩⟩
end

/-! ### enumerate of a tuple -/
theorem meets_enum_tup (t : Addr) (vs : Array Value) : Meets (Builtin.«enumerate.__new__» ⟨[.type "enumerate", .ref t], []⟩) (fun _ R s => s.heap.IsTuple t vs ∧
      R (.ok (.ret (.ref (s.heap.push { cls := .type "tuple_iterator", data := .fields #[.ref t, .int 0 0] }).objs.size)))
        { s with heap := (s.heap.push { cls := .type "tuple_iterator", data := .fields #[.ref t, .int 0 0] }).push { cls := .type "enumerate", data := .fields #[.none, .bool false, .ref s.heap.objs.size, rawInt 0, .none, .none] } }) :=
  .of_wp fun prog w A R s hh => by
    obtain ⟨⟨⟨c0, dct, dt, sl⟩, hl, hc, n, hd⟩, hr⟩ := hh
    obtain ⟨hp, g, dr, tk, os⟩ := s
    have hc' : c0 = .type "tuple" := hc
    have hd' : dt = .seq vs n := hd
    subst hc' hd'
    have hsub := sub_enumerate
    have hT : Heap.IsTuple (Shared.heap ⟨hp, g, dr, tk, os⟩) t vs := ⟨_, hl, rfl, n, rfl⟩
    wp_walk using AutoSeq1.wpAny_loadPart' hl
    refine wpAny_stack_any fun st => wpAny_pure ?_
    split
    · rename_i cc _ _ _ _ _
      cases (cc == Value.type "enumerate") <;> (wp_walk using AutoSeq1.wpAny_loadPart' hl, wpAny_pyIter_tuple hT; exact ⟨_, rfl, hr⟩)
    · wp_walk using AutoSeq1.wpAny_loadPart' hl, wpAny_pyIter_tuple hT
      exact ⟨_, rfl, hr⟩
theorem call_enum_tup {prog : Program} {w : World} {A : Around} {E : Value → Shared → Prop} {s : Shared} {t : Addr} {vs : Array Value} {Q : Value → Shared → Prop} (hT : s.heap.IsTuple t vs)
    (h : ∀ h', IsEnum h' (s.heap.objs.size + 1) s.heap.objs.size 0 .none → h'.IsTupleIter s.heap.objs.size t 0 → (∀ b o, s.heap.get? b = some o → h'.get? b = some o) → Q (.ref (s.heap.objs.size + 1)) { s with heap := h' }) :
    wpAny (model prog w) A (call (.type "enumerate") [.ref t]) Q E s := by
  refine callType_new F.called_enumerate (by decide) (F.typeCall_enumerate_1 _) (F.newCall_enumerate_1 _) (fun obj => F.args_object_init_2 obj _) F.entry_enumerate_new (meets_enum_tup t vs) ⟨hT, ?_⟩
  have hz : (s.heap.push { cls := .type "tuple_iterator", data := .fields #[.ref t, .int 0 0] }).objs.size = s.heap.objs.size + 1 := Heap.size_push ..
  have he := Heap.get?_push_size (s.heap.push { cls := .type "tuple_iterator", data := .fields #[.ref t, .int 0 0] }) (o := { cls := .type "enumerate", data := .fields #[.none, .bool false, .ref s.heap.objs.size, rawInt 0, .none, .none] }) rfl
  show _ ∧ _
  rw [hz] at he ⊢
  exact ⟨⟨_, he, rfl⟩, h _ he ⟨_, Heap.get?_push_of_some _ (Heap.get?_push_size _ rfl), rfl, rfl⟩ fun b o x => Heap.get?_push_of_some _ (Heap.get?_push_of_some _ x)⟩
def IteT (K : Fg) (a : Addr) : It :=
  ⟨fun i H => ∃ xs x, SqT K H a xs ∧ xs[i]? = some x, fun i H v H' => ∃ T x, v = .ref T ∧ H T = none ∧ H' = upd H T (.tup [.int (i : Nat), x]) ∧ ∀ xs, SqT K H a xs → xs[i]? = some x, fun i H => ∃ xs, SqT K H a xs ∧ xs.length ≤ i⟩
theorem turn_enumT {P : Program} {w : World} {K : Fg} {elts : List Expr} {kk : Nat} {tpos : Pos} (a e it : Addr) :
    Turn P w K (.Tuple elts kk tpos) (IteT K a) [e, it] e (fun i h => (∃ old, IsEnum h e it ((i : Nat) : Int) old) ∧ h.IsTupleIter it a i ∧ e ≠ it) := by
  have two : ∀ b, b ∈ [e, it] → b = e ∨ b = it := fun b hb => by simpa using hb
  refine ⟨List.mem_cons_self, fun i h st b hb => ?_, fun i h h' st k => ⟨⟨_, k e List.mem_cons_self _ st.1.choose_spec⟩, st.2.1.at fun o q => k it (List.mem_cons_of_mem _ List.mem_cons_self) o q, st.2.2⟩, ?_, ?_, fun A i s Q E st h => wpAny_pyIter_enum st.1.choose_spec h⟩
  · obtain ⟨⟨old, he⟩, ⟨o, ho, _, hd⟩, _⟩ := st
    rcases two b hb with z | z
    · exact ⟨_, z ▸ he, fun v q => by cases q⟩
    · exact ⟨o, z ▸ ho, fun v q => by rw [hd] at q; cases q⟩
  · intro X hP hw hK hc i pins s σ H E I hf st hg
    subst hP hw hK
    obtain ⟨⟨old, he⟩, hit, hne⟩ := st
    obtain ⟨xs, x, hq, hx⟩ := hg
    obtain ⟨its, rv, p, hz⟩ := I.tuple hq
    have hT : s.heap.IsTuple a its.toArray := p
    obtain ⟨u, hu, ru⟩ := rv.get hx
    have lte := Heap.lt_size he
    have lti : it < s.heap.objs.size := let ⟨_, q, _⟩ := hit; Heap.lt_size q
    obtain ⟨oT, hoT, hcT, nT, hdT⟩ := hT
    have nit : a ≠ it := fun z => by
      obtain ⟨oi, hoi, hci, _⟩ := hit
      rw [← z, hoT] at hoi; cases hoi; rw [hcT] at hci; exact absurd hci (by decide)
    have ne : a ≠ e := fun z => by rw [z, he] at hoT; cases hoT; exact absurd (show Value.type "enumerate" = Value.type "tuple" from hcT) (by decide)
    have hl : its.length = xs.length := rv.length.symm
    have hi : i < xs.length := (List.getElem?_eq_some_iff.mp hx).1
    refine wpAny_pyNext_enum_itemD (Draws.tuple (prog := X.prog) (w := X.w) (A := X.A.in1) (I.ok.hd hc) it a nit its.toArray) he ⟨hit, ⟨oT, hoT, hcT, nT, hdT⟩⟩ (by simpa using (by omega : i < its.length)) hne (by simp [hne, ne.symm]) fun y h' tk hy ho hst hT' hsz hk => ?_
    have ey : y = u := by
      have h1 : its[i]? = some y := by simpa using hy
      rw [hu] at h1; exact (Option.some.inj h1).symm
    subst ey
    refine ⟨_, rfl, wpAny_letOwnedTupleGo_enum (s := { s with heap := h', toks := tk + 1 }) ho fun h2 he2 sb => ?_⟩
    have gT : h2.get? s.heap.objs.size = some { cls := .type "tuple", data := .seq #[.int i tk, y] } := (sb.2 _ (Nat.ne_of_gt lte)).trans hT'
    have keep2 : ∀ b ob, b ∉ [e, it] → s.heap.get? b = some ob → h2.get? b = some ob := fun b ob hb q => (sb.2 b fun z => hb (z ▸ List.mem_cons_self)).trans (hk b ob (fun z => hb (z ▸ List.mem_cons_self)) (fun z => hb (z ▸ List.mem_cons_of_mem _ List.mem_cons_self)) q)
    have I1 := I.turnedNew (ch := [e, it]) (h' := h2) (t' := tk + 1) (T := s.heap.objs.size) (ob := .tup [.int (i : Nat), x]) keep2 hf (Nat.le_refl _)
      ⟨by show 2 ≤ sizeLine; decide, [.int i tk, y], .cons ⟨_, rfl⟩ (.cons ru .nil), ⟨_, gT, rfl, _, rfl⟩⟩
    refine ⟨.ref s.heap.objs.size, _, I1, rfl, ⟨_, x, rfl, I.hok.fresh (Nat.le_refl _), rfl, fun ys hy => by rw [I.tuple_inj hy hq]; exact hx⟩, ⟨⟨y, ?_⟩, hst.1.at fun o q => (sb.2 it (Ne.symm hne)).trans q, hne⟩, fun b hb => ?_⟩
    · have e1 : ((i + 1 : Nat) : Int) = (i : Int) + 1 := by omega
      rw [e1]; exact he2
    · have lb : b < s.heap.objs.size := (two b hb).elim (fun z => z ▸ lte) fun z => z ▸ lti
      rw [upd_ne (Nat.ne_of_lt lb)]
      exact (hf b hb).1
  · intro X hP hw hK hc i pins s σ H E I hf st hg
    subst hP hw hK
    obtain ⟨⟨old, he⟩, hit, hne⟩ := st
    obtain ⟨xs, hq, hx⟩ := hg
    obtain ⟨its, rv, p, hz⟩ := I.tuple hq
    obtain ⟨oT, hoT, hcT, nT, hdT⟩ := p
    have nit : a ≠ it := fun z => by
      obtain ⟨oi, hoi, hci, _⟩ := hit
      rw [← z, hoT] at hoi; cases hoi; rw [hcT] at hci; exact absurd hci (by decide)
    obtain ⟨f0, f1, f2, f3, f4, f5⟩ := hf it (List.mem_cons_of_mem _ List.mem_cons_self)
    have hle : its.length ≤ i := by rw [← rv.length]; exact hx
    -- the iterator stands behind the last item: the walk is empty from there
    have D0 : Draws X.prog X.w X.A.in1 it [it, a] 0 (fun _ _ => False) (fun _ h => h.IsTupleIter it a i ∧ h.IsTuple a its.toArray) := ⟨fun _ _ st => let ⟨o, ho, _⟩ := st.1; ⟨o, ho⟩,
      fun _ _ _ st hk => ⟨st.1.at fun o q => hk it (by simp) o q, st.2.at fun o q => hk a (by simp) o q⟩, fun j _ _ _ hj => absurd hj (Nat.not_lt_zero _),
      fun s Q E st hE => wpAny_nextOf_tuple_end (I.ok.hd hc) st.1 st.2 (by simpa using hle) hE⟩
    exact wpAny_pyNext_enum_endD D0 he ⟨hit, ⟨oT, hoT, hcT, nT, hdT⟩⟩ fun h' eb => ⟨rfl, I.turned (t' := s.toks) (fun b o hb q => eb b o hb q) f0 f1 f3 f4 f5⟩
section
variable {X : Cx} {e : Expr} {te : TE} {p pos tpos : Pos} {elts : List Expr} {kk : Nat}
def iEnumA (K : Fg) (te : TE) : TI := fun σ H R => te σ H fun x H1 => (∃ a xs, x = .ref a ∧ SqL K H1 a xs ∧ R (Ite K a) H1) ∨ (∃ a xs, x = .ref a ∧ SqT K H1 a xs ∧ R (IteT K a) H1)
theorem pi_enumA (hg : Gl X "enumerate") (hm : X.mg "enumerate" = none) (he : PE X e te) (hs : starEach [e] X.env = (false, eval e X.env) :: starEach [] X.env := by rfl) (hs' : starEach [e] X.env = [(false, eval e X.env)] := by rfl) :
    PI X (.Tuple elts kk tpos) (.Call (.Name "enumerate" p) [e] [] pos) (iEnumA X.K te) := ⟨fun pins s σ H R I h => by
  let Q : List V → Hp → Prop := fun vs H1 => match vs with
    | [x] => (∃ a xs, x = V.ref a ∧ SqL X.K H1 a xs ∧ R (Ite X.K a) H1) ∨ (∃ a xs, x = V.ref a ∧ SqT X.K H1 a xs ∧ R (IteT X.K a) H1)
    | _ => False
  refine Call_ (ld_blt I hg hm boot_enumerate (PyProof.Rows.callWith_type1 (thn ((pa_cons he pa_nil hs).run pos pins s σ H Q I h) fun us s1 hv => ?_) hs' rfl))
  obtain ⟨vs, H1, I1, r1, q1⟩ := hv
  match vs, r1, q1 with
  | [x], .cons r .nil, q1 =>
    have fpe : ∀ b ∈ [s1.heap.objs.size + 1, s1.heap.objs.size], FpOk X pins H1 b := fun b hb => by
      have hb' : b = s1.heap.objs.size + 1 ∨ b = s1.heap.objs.size := by simpa using hb
      have hle : s1.heap.objs.size ≤ b := by omega
      exact I1.fpOk hle (I1.hok.fresh hle)
    rcases q1 with ⟨a, xs, ea, hq, q⟩ | ⟨a, xs, ea, hq, q⟩
    · subst ea; cases r
      obtain ⟨its, rv, p', hz⟩ := I1.list hq
      refine call_enumerate_list p'.isList fun h' he' hit hsz hk => wpAny_pyIter_enum he' ?_
      exact ⟨_, _, _, _, H1, rfl, I1.kept (t' := s1.toks) hk, turn_enum a (s1.heap.objs.size + 1) s1.heap.objs.size, ⟨⟨.none, he'⟩, hit, Nat.succ_ne_self _⟩, fpe, q⟩
    · subst ea; cases r
      obtain ⟨its, rv, p', hz⟩ := I1.tuple hq
      refine call_enum_tup (show s1.heap.IsTuple a its.toArray from p') fun h' he' hit hk => wpAny_pyIter_enum he' ?_
      exact ⟨_, _, _, _, H1, rfl, I1.kept (t' := s1.toks) hk, turn_enumT a (s1.heap.objs.size + 1) s1.heap.objs.size, ⟨⟨.none, he'⟩, hit, Nat.succ_ne_self _⟩, fpe, q⟩⟩
end
end DL

set_option Elab.async false
set_option linter.all false
set_option maxRecDepth 100000
set_option maxHeartbeats 2000000
/-! The data layer, fifth part: sources, targets, comprehensions. -/
namespace DL
open PySem PySem.Spec PyProof.Rows L2

/-! ### sources -/
/-- a datum, or a tuple that is known by its items alone -/
inductive RpI (K : Fg) (G : Hp) : V → D → Prop
  | r {x : V} {d : D} : Rp K G x d → RpI K G x d
  | t {a : Addr} {vs : List V} {ds : List D} : G a = some (.tup vs) → RpA K G vs ds → RpI K G (.ref a) (.tup ds)
abbrev PZ := Fg → Hp → V → D → Prop
/-- the walk J gives these data, while what is frozen at G₀ stands -/
def GoesD (K : Fg) (Pz : PZ) (J : It) (G₀ : Hp) (items : List D) : Prop := ∀ (i : Nat) (G H : Hp), Same G₀ G → Same G H →
  (∀ d, items[i]? = some d → J.go i H ∧ ∀ x H', J.yld i H x H' → ∃ G', Ext G H G' H' ∧ Pz K G' x d) ∧ (items.length ≤ i → J.stop i H)
def Ik (K : Fg) (Pz : PZ) (W : WX) (σ : L2.St) (θ : Nat → Addr) (G : Hp) (ρ : List Sl) (Ws : List Addr) (H : Hp) (r : R (List D)) (Rr : It → Hp → Prop) : Prop :=
  Stt K θ G H σ ρ Ws ∧ match r with
    | .ok items => ∀ J G' H', Ext G H G' H' → GoesD K Pz J G' items → Rr J H'
    | .ex x => ∀ d G' H', Ext G H G' H' → XkOk K G' H' x d → W (.ref x.cls) d σ H'
    | .st => False
def tI (K : Fg) (Pz : PZ) (W : WX) (g : List Sl → R (List D)) : TI := fun σ H Rr => ∃ θ G ρ Ws, Ik K Pz W σ θ G ρ Ws H (g ρ) Rr
structure DI (X : Cx) (Pz : PZ) (W : WX) (tg iter : Expr) (g : List Sl → R (List D)) : Prop where
  run : PI X tg iter (tI X.K Pz W g)
theorem PI.conseq {X : Cx} {tg e : Expr} {t t' : TI} (h : PI X tg e t) (w : ∀ σ H Q, t' σ H Q → t σ H Q) : PI X tg e t' := ⟨fun pins s σ H Q I q => h.run pins s σ H Q I (w _ _ _ q)⟩
section
variable {Z : ZK} {K : Fg} {W : WX} {σ : L2.St} {θ : Nat → Addr} {G H G1 H1 : Hp} {ρ : List Sl} {Ws : List Addr} {r : R (List D)} {Q : It → Hp → Prop} {Pz : PZ}
theorem Ik.ext (h : Ik K Pz W σ θ G ρ Ws H r Q) (e : Ext G H G1 H1) : Ik K Pz W σ θ G1 ρ Ws H1 r Q := by
  refine ⟨h.1.ext e, ?_⟩
  have h2 := h.2
  cases r with
  | ok d => exact fun v G' H' e' z => h2 v G' H' (e.trans e') z
  | ex x => exact fun v G' H' e' z => h2 v G' H' (e.trans e') z
  | st => exact h2
theorem Ik.pk {r : R D} {k : D → R (List D)} (h : Ik K Pz W σ θ G ρ Ws H (r.bind k) Q) : Pk Z K W σ θ G ρ Ws H r (fun v H1 => ∃ d G1, r = .ok d ∧ Ext G H G1 H1 ∧ Z K G1 H1 v d ∧ Ik K Pz W σ θ G1 ρ Ws H1 (k d) Q) := by
  refine ⟨h.1, ?_⟩
  cases r with
  | ok d => exact fun v G' H' e' z => ⟨d, G', rfl, e', z, Ik.ext h e'⟩
  | ex x => exact h.2
  | st => exact h.2
theorem Ik.goes {items : List D} {J : It} (h : Ik K Pz W σ θ G ρ Ws H (.ok items) Q) (g : GoesD K Pz J G items) : Q J H := h.2 J G H (Ext.refl h.1.same) g
end
theorem SqT.inj {K : Fg} {G H : Hp} {a : Addr} {xs ys : List V} (h : SqT K H a xs) (h' : SqT K H a ys) (hk : H a ≠ none ∨ (K.lookup a).isSome) : True := trivial
theorem goes_list {K : Fg} {G : Hp} {a : Addr} {vs : List V} {ds : List D} (h : G a = some (.lst vs)) (r : RpA K G vs ds) : GoesD K Rp (Itl K a) G ds := by
  intro i G1 H1 s1 s2
  have h2 : SqL K H1 a vs := SqL.of (s2 _ _ (s1 _ _ h))
  refine ⟨fun d hd => ?_, fun hl => ⟨vs, h2, by rw [r.length]; exact hl⟩⟩
  obtain ⟨v, hv, rv⟩ := r.get hd
  refine ⟨⟨vs, v, h2, hv⟩, fun x H' y => ?_⟩
  obtain ⟨e, y⟩ := y
  subst e
  have := y vs h2
  rw [hv] at this
  cases this
  exact ⟨G1, Ext.refl s2, rv.mono s1⟩
theorem goes_scr {K : Fg} {G : Hp} {a : Addr} {ns : List Int} (h : SqL K G a (ns.map V.int)) : GoesD K Rp (Itl K a) G (ns.map D.int) := by
  intro i G1 H1 s1 s2
  have h2 : SqL K H1 a (ns.map V.int) := s2.seq (s1.seq h)
  have r : RpA K G (ns.map V.int) (ns.map D.int) := RpA.ofInts ns
  refine ⟨fun d hd => ?_, fun hl => ⟨_, h2, by rw [r.length]; exact hl⟩⟩
  obtain ⟨v, hv, rv⟩ := r.get hd
  refine ⟨⟨_, v, h2, hv⟩, fun x H' y => ?_⟩
  obtain ⟨e, y⟩ := y
  subst e
  have := y _ h2
  rw [hv] at this
  cases this
  exact ⟨G1, Ext.refl s2, rv.mono s1⟩
theorem goes_tup {K : Fg} {G : Hp} {a : Addr} {vs : List V} {ds : List D} (h : SqT K G a vs) (r : RpA K G vs ds) : GoesD K Rp (Itt K a) G ds := by
  intro i G1 H1 s1 s2
  have h2 : SqT K H1 a vs := sameT s2 (sameT s1 h)
  refine ⟨fun d hd => ?_, fun hl => ⟨vs, h2, by rw [r.length]; exact hl⟩⟩
  obtain ⟨v, hv, rv⟩ := r.get hd
  refine ⟨⟨vs, v, h2, hv⟩, fun x H' y => ?_⟩
  obtain ⟨e, y⟩ := y
  subst e
  have := y vs h2
  rw [hv] at this
  cases this
  exact ⟨G1, Ext.refl s2, rv.mono s1⟩
theorem goes_range {K : Fg} {G : Hp} (lo : Int) (n : Nat) : GoesD K Rp (Itr lo n) G ((List.range n).map fun (k : Nat) => D.int (lo + k)) := by
  intro i G1 H1 s1 s2
  refine ⟨fun d hd => ?_, fun hl => by show n ≤ i; simpa using hl⟩
  rw [List.getElem?_map] at hd
  have hi : i < n := by
    cases q : (List.range n)[i]? with
    | none => rw [q] at hd; cases hd
    | some j => simpa using (List.getElem?_eq_some_iff.mp q).1
  rw [List.getElem?_range hi] at hd
  cases hd
  refine ⟨hi, fun x H' y => ?_⟩
  obtain ⟨e, y⟩ := y
  subst e y
  exact ⟨G1, Ext.refl s2, .int _⟩
def numbered (k : Nat) : List D → List D
  | [] => []
  | d :: ds => .tup [.int (k : Nat), d] :: numbered (k + 1) ds
theorem numbered_len : ∀ (ds : List D) (k : Nat), (numbered k ds).length = ds.length
  | [], _ => rfl
  | d :: ds, k => by simp [numbered, numbered_len ds]
theorem numbered_get : ∀ (ds : List D) (k i : Nat) (d : D), (numbered k ds)[i]? = some d → ∃ d', ds[i]? = some d' ∧ d = .tup [.int ((k + i : Nat) : Int), d']
  | [], k, i, d, h => by simp [numbered] at h
  | x :: ds, k, 0, d, h => by simp [numbered] at h; exact ⟨x, rfl, h.symm⟩
  | x :: ds, k, i + 1, d, h => by
    obtain ⟨d', h1, h2⟩ := numbered_get ds (k + 1) i d (by simpa [numbered] using h)
    refine ⟨d', by simpa using h1, ?_⟩
    rw [h2, show k + 1 + i = k + (i + 1) by omega]
theorem goes_enum {K : Fg} {G : Hp} {a : Addr} {vs : List V} {ds : List D} (h : G a = some (.lst vs)) (r : RpA K G vs ds) : GoesD K RpI (Ite K a) G (numbered 0 ds) := by
  intro i G1 H1 s1 s2
  have h2 : SqL K H1 a vs := SqL.of (s2 _ _ (s1 _ _ h))
  refine ⟨fun d hd => ?_, fun hl => ⟨vs, h2, by rw [r.length, ← numbered_len ds 0]; exact hl⟩⟩
  obtain ⟨d', hd', ed⟩ := numbered_get ds 0 i d hd
  obtain ⟨v, hv, rv⟩ := r.get hd'
  refine ⟨⟨vs, v, h2, hv⟩, fun x H' y => ?_⟩
  obtain ⟨T, u, rfl, hT, rfl, y⟩ := y
  have := y vs h2
  rw [hv] at this
  cases this
  subst ed
  rw [Nat.zero_add]
  exact ⟨_, Ext.new s2 hT, RpI.t upd_same (RpA.mono (same_upd (s2.free hT)) (.cons (.int _) (.cons (rv.mono s1) .nil)))⟩
theorem goes_enumT {K : Fg} {G : Hp} {a : Addr} {vs : List V} {ds : List D} (h : SqT K G a vs) (r : RpA K G vs ds) : GoesD K RpI (IteT K a) G (numbered 0 ds) := by
  intro i G1 H1 s1 s2
  have h2 : SqT K H1 a vs := sameT s2 (sameT s1 h)
  refine ⟨fun d hd => ?_, fun hl => ⟨vs, h2, by rw [r.length, ← numbered_len ds 0]; exact hl⟩⟩
  obtain ⟨d', hd', ed⟩ := numbered_get ds 0 i d hd
  obtain ⟨v, hv, rv⟩ := r.get hd'
  refine ⟨⟨vs, v, h2, hv⟩, fun x H' y => ?_⟩
  obtain ⟨T, u, rfl, hT, rfl, y⟩ := y
  have := y vs h2
  rw [hv] at this
  cases this
  subst ed
  rw [Nat.zero_add]
  exact ⟨_, Ext.new s2 hT, RpI.t upd_same (RpA.mono (same_upd (s2.free hT)) (.cons (.int _) (.cons (rv.mono s1) .nil)))⟩
theorem goes_str {K : Fg} {G : Hp} (z : Str) : GoesD K Rp (Its z) G (z.cps.toList.map fun c => D.str ⟨#[c]⟩) := by
  intro i G1 H1 s1 s2
  refine ⟨fun d hd => ?_, fun hl => by simpa [Its] using hl⟩
  rw [List.getElem?_map] at hd
  cases q : z.cps.toList[i]? with
  | none => rw [q] at hd; cases hd
  | some c =>
    rw [q] at hd
    cases hd
    have hi : i < z.cps.size := by simpa using (List.getElem?_eq_some_iff.mp q).1
    refine ⟨hi, fun x H' y => ?_⟩
    obtain ⟨e, c', hc, y⟩ := y
    subst e y
    have : z.cps[i]? = some c := by simpa using q
    rw [this] at hc
    cases hc
    exact ⟨G1, Ext.refl s2, .str _⟩
def itemsD : D → R (List D)
  | .lst xs => .ok xs
  | .tup xs => .ok xs
  | .scr ns => .ok (ns.map .int)
  | _ => .st
def enumD : D → R (List D)
  | .lst xs => .ok (numbered 0 xs)
  | .tup xs => .ok (numbered 0 xs)
  | _ => .st
def signsD : D → R (List D)
  | .str z => .ok (z.cps.toList.map fun c => .str ⟨#[c]⟩)
  | _ => .st
def rangeD (lo hi : Int) : List D := (List.range (hi - lo).toNat).map fun (k : Nat) => D.int (lo + k)
def ok62 (i : Int) : Bool := decide (-(2 ^ 62) ≤ i) && decide (i < 2 ^ 62)
def i1 (f : D → R (List D)) (g : List Sl → R D) (ρ : List Sl) : R (List D) := (g ρ).bind f
def iRange1 (g : List Sl → R D) (ρ : List Sl) : R (List D) := (g ρ).bind fun d => match d with
  | .int j => if ok62 j then .ok (rangeD 0 j) else .st
  | _ => .st
def iRange2 (f g : List Sl → R D) (ρ : List Sl) : R (List D) := (f ρ).bind fun d => (g ρ).bind fun d' => match d, d' with
  | .int i, .int j => if ok62 i && ok62 j then .ok (rangeD i j) else .st
  | _, _ => .st
section
variable {X : Cx} {W : WX} {tg e a b : Expr} {g fa fb : List Sl → R D} {p pos tpos : Pos} {elts : List Expr} {kk : Nat}
theorem di_seq (h : DP X W e g) : DI X Rp W tg e (i1 itemsD g) := ⟨PI.conseq (pi_seq h.run) fun σ H R ⟨θ, G, ρ, Ws, q⟩ => ⟨θ, G, ρ, Ws, (Ik.pk (Z := Zc) q).imp fun v H1 ⟨d, G1, _, e1, z, q1⟩ => by
  have s := q1.1.same
  unfold itemsD at q1
  cases z with
  | lst hl r => exact .inl ⟨_, _, rfl, SqL.of (s _ _ hl), q1.goes (goes_list hl r)⟩
  | tup ht r => exact .inr ⟨_, _, rfl, sameT s ht.t, q1.goes (goes_tup ht.t r)⟩
  | scr hs => exact .inl ⟨_, _, rfl, s.seq hs, q1.goes (goes_scr hs)⟩
  | _ => exact q1.2.elim⟩⟩
theorem di_enum (hg : Gl X "enumerate") (hm : X.mg "enumerate" = none) (h : DP X W e g) (hs : starEach [e] X.env = (false, eval e X.env) :: starEach [] X.env := by rfl) (hs' : starEach [e] X.env = [(false, eval e X.env)] := by rfl) :
    DI X RpI W (.Tuple elts kk tpos) (.Call (.Name "enumerate" p) [e] [] pos) (i1 enumD g) := ⟨PI.conseq (pi_enumA hg hm h.run hs hs') fun σ H R ⟨θ, G, ρ, Ws, q⟩ => ⟨θ, G, ρ, Ws, (Ik.pk (Z := Zc) q).imp fun v H1 ⟨d, G1, _, e1, z, q1⟩ => by
  have s := q1.1.same
  unfold enumD at q1
  cases z with
  | lst hl r => exact .inl ⟨_, _, rfl, SqL.of (s _ _ hl), q1.goes (goes_enum hl r)⟩
  | tup ht r => exact .inr ⟨_, _, rfl, sameT s ht.t, q1.goes (goes_enumT ht.t r)⟩
  | _ => exact q1.2.elim⟩⟩
theorem di_str (h : DP X W e g) : DI X Rp W tg e (i1 signsD g) := ⟨PI.conseq (pi_str h.run) fun σ H R ⟨θ, G, ρ, Ws, q⟩ => ⟨θ, G, ρ, Ws, (Ik.pk (Z := Zc) q).imp fun v H1 ⟨d, G1, _, e1, z, q1⟩ => by
  unfold signsD at q1
  cases z with
  | str x => exact ⟨x, rfl, q1.goes (goes_str x)⟩
  | _ => exact q1.2.elim⟩⟩
theorem ok62_of {i : Int} (h : ok62 i = true) : -(2 ^ 62) ≤ i ∧ i < 2 ^ 62 := by
  simpa [ok62] using h
theorem di_range1 (hg : Gl X "range") (hm : X.mg "range" = none) (h : DP X W a fa) (hs : starEach [a] X.env = (false, eval a X.env) :: starEach [] X.env := by rfl) (hs' : starEach [a] X.env = [(false, eval a X.env)] := by rfl) :
    DI X Rp W tg (.Call (.Name "range" p) [a] [] pos) (iRange1 fa) := ⟨PI.conseq (pi_range1 hg hm (pa_cons h.run pa_nil hs) hs') fun σ H R ⟨θ, G, ρ, Ws, q⟩ => ⟨θ, G, ρ, Ws, (Ik.pk (Z := Zc) q).imp fun v H1 ⟨d, G1, _, e1, z, q1⟩ => by
  cases z with
  | int j =>
    dsimp only at q1
    split at q1
    · rename_i hj
      obtain ⟨h1, h2⟩ := ok62_of hj
      refine ⟨j, rfl, h1, h2, q1.goes ?_⟩
      have := goes_range (K := X.K) (G := G1) 0 j.toNat
      unfold rangeD
      rw [Int.sub_zero]
      exact this
    · exact q1.2.elim
  | _ => exact q1.2.elim⟩⟩
theorem di_range2 (hg : Gl X "range") (hm : X.mg "range" = none) (ha : DP X W a fa) (hb : DP X W b fb) (hs : starEach [a, b] X.env = (false, eval a X.env) :: starEach [b] X.env := by rfl) (hs2 : starEach [b] X.env = (false, eval b X.env) :: starEach [] X.env := by rfl)
    (hs' : starEach [a, b] X.env = [(false, eval a X.env), (false, eval b X.env)] := by rfl) (hs3 : starEach [b] X.env = [(false, eval b X.env)] := by rfl) :
    DI X Rp W tg (.Call (.Name "range" p) [a, b] [] pos) (iRange2 fa fb) := ⟨PI.conseq (pi_range2 hg hm (pa_cons ha.run (pa_cons hb.run pa_nil hs2) hs) hs' hs3) fun σ H R ⟨θ, G, ρ, Ws, q⟩ => ⟨θ, G, ρ, Ws, (Ik.pk (Z := Zc) q).imp fun v H1 ⟨d, G1, _, e1, z, q1⟩ => ⟨θ, G1, ρ, Ws, (Ik.pk (Z := Zc) q1).imp fun v2 H2 ⟨d2, G2, _, e2, z2, q2⟩ => by
  cases z with
  | int i =>
    cases z2 with
    | int j =>
      dsimp only at q2
      split at q2
      · rename_i hj
        rw [Bool.and_eq_true] at hj
        obtain ⟨h1, h2⟩ := ok62_of hj.1
        obtain ⟨h3, h4⟩ := ok62_of hj.2
        exact ⟨i, j, rfl, ⟨h1, h2, h3, h4⟩, q2.goes (goes_range i (j - i).toNat)⟩
      · exact q2.2.elim
    | _ => exact q2.2.elim
  | _ => cases z2 <;> exact q2.2.elim⟩⟩⟩
end

/-! ### targets -/
section
variable {K : Fg} {θ : Nat → Addr} {G H : Hp}
theorem Sts.put {σ : List (Option V)} {ρ : List Sl} {W : List Addr} (h : Sts K θ G H σ ρ W) {i : Nat} {v : V} {d : D} (hi : i < ρ.length) (r : Rp K G v d) : ∃ W', Sts K θ G H (σ.set i (some v)) (ρ.set i (.val d)) W' ∧ W'.Sublist W := by
  induction h generalizing i with
  | nil => cases hi
  | un _ ih =>
    cases i with
    | zero => exact ⟨_, .val r ‹_›, List.Sublist.refl _⟩
    | succ i =>
      obtain ⟨W', h1, h2⟩ := ih (i := i) (by simpa using hi)
      exact ⟨W', .un h1, h2⟩
  | val r0 _ ih =>
    cases i with
    | zero => exact ⟨_, .val r ‹_›, List.Sublist.refl _⟩
    | succ i =>
      obtain ⟨W', h1, h2⟩ := ih (i := i) (by simpa using hi)
      exact ⟨W', .val r0 h1, h2⟩
  | own r0 t0 _ ih =>
    cases i with
    | zero => exact ⟨_, .val r ‹_›, List.sublist_append_right _ _⟩
    | succ i =>
      obtain ⟨W', h1, h2⟩ := ih (i := i) (by simpa using hi)
      exact ⟨_, .own r0 t0 h1, (List.Sublist.refl _).append h2⟩
theorem Sts.wipe1 {σ : List (Option V)} {ρ : List Sl} {W : List Addr} (h : Sts K θ G H σ ρ W) (i : Nat) : ∃ W', Sts K θ G H (σ.set i none) (ρ.set i .un) W' ∧ W'.Sublist W := by
  induction h generalizing i with
  | nil => exact ⟨[], .nil, List.Sublist.refl _⟩
  | un _ ih =>
    cases i with
    | zero => exact ⟨_, .un ‹_›, List.Sublist.refl _⟩
    | succ i =>
      obtain ⟨W', h1, h2⟩ := ih i
      exact ⟨W', .un h1, h2⟩
  | val r0 _ ih =>
    cases i with
    | zero => exact ⟨_, .un ‹_›, List.Sublist.refl _⟩
    | succ i =>
      obtain ⟨W', h1, h2⟩ := ih i
      exact ⟨W', .val r0 h1, h2⟩
  | own r0 t0 _ ih =>
    cases i with
    | zero => exact ⟨_, .un ‹_›, List.sublist_append_right _ _⟩
    | succ i =>
      obtain ⟨W', h1, h2⟩ := ih i
      exact ⟨_, .own r0 t0 h1, (List.Sublist.refl _).append h2⟩
def wipeS (ρ : List Sl) : List Nat → List Sl
  | [] => ρ
  | v :: vs => (wipeS ρ vs).set v .un
theorem Stt.sub {σ σ' : List (Option V)} {ρ ρ' : List Sl} {W W' : List Addr} (h : Stt K θ G H σ ρ W) (h' : Sts K θ G H σ' ρ' W') (s : W'.Sublist W) : Stt K θ G H σ' ρ' W' :=
  ⟨h.same, h', h.nd.sublist s, fun a ha => h.out a (s.subset ha)⟩
theorem Stt.wipe {σ : List (Option V)} {ρ : List Sl} {W : List Addr} (h : Stt K θ G H σ ρ W) : ∀ vs : List Nat, ∃ W', Stt K θ G H (L2.wipe σ vs) (wipeS ρ vs) W' ∧ W'.Sublist W
  | [] => ⟨W, h, List.Sublist.refl _⟩
  | v :: vs => by
    obtain ⟨W1, h1, s1⟩ := Stt.wipe h vs
    obtain ⟨W2, h2, s2⟩ := h1.sts.wipe1 v
    exact ⟨W2, h1.sub h2 s2, s2.trans s1⟩
theorem Stt.put {σ : List (Option V)} {ρ : List Sl} {W : List Addr} (h : Stt K θ G H σ ρ W) {i : Nat} {v : V} {d : D} (hi : i < ρ.length) (r : Rp K G v d) : ∃ W', Stt K θ G H (σ.set i (some v)) (ρ.set i (.val d)) W' ∧ W'.Sublist W := by
  obtain ⟨W', h1, h2⟩ := h.sts.put hi r
  exact ⟨W', h.sub h1 h2, h2⟩
end
/-- a target: where a datum goes; vs: the slots that it sets -/
def TgOk (K : Fg) (Pz : PZ) (t : TG) (vs : List Nat) (f : D → List Sl → Option (List Sl)) : Prop := ∀ ⦃θ G H σ ρ W v d ρ' Q⦄, Stt K θ G H σ ρ W → Pz K G v d → f d ρ = some ρ' →
    (∀ σ' W', Stt K θ G H σ' ρ' W' → W'.Sublist W → (∀ us : List Nat, (∀ i ∈ vs, i ∈ us) → L2.wipe σ' us = L2.wipe σ us) → Q σ' H) → t v σ H Q
def TgsOk (K : Fg) (t : TGs) (vs : List Nat) (f : List D → List Sl → Option (List Sl)) : Prop := ∀ ⦃θ G H σ ρ W xs ds ρ' Q⦄, Stt K θ G H σ ρ W → RpA K G xs ds → f ds ρ = some ρ' →
    (∀ σ' W', Stt K θ G H σ' ρ' W' → W'.Sublist W → (∀ us : List Nat, (∀ i ∈ vs, i ∈ us) → L2.wipe σ' us = L2.wipe σ us) → Q σ' H) → t xs σ H Q
def gVar (i : Nat) (d : D) (ρ : List Sl) : Option (List Sl) := if i < ρ.length then some (ρ.set i (.val d)) else none
def gTupD (f : List D → List Sl → Option (List Sl)) (d : D) (ρ : List Sl) : Option (List Sl) := match d with
  | .tup ds => f ds ρ
  | _ => none
def gsNil (ds : List D) (ρ : List Sl) : Option (List Sl) := match ds with
  | [] => some ρ
  | _ => none
def gsCons (f : D → List Sl → Option (List Sl)) (g : List D → List Sl → Option (List Sl)) (ds : List D) (ρ : List Sl) : Option (List Sl) := match ds with
  | d :: r => (f d ρ).bind fun ρ1 => g r ρ1
  | [] => none
theorem wipe_set {σ : L2.St} {i : Nat} {x : Option V} : ∀ {us : List Nat}, i ∈ us → L2.wipe (σ.set i x) us = L2.wipe σ us
  | [], h => by cases h
  | u :: us, h => by
    unfold L2.wipe
    by_cases hu : i ∈ us
    · rw [wipe_set hu]
    · have e : i = u := by
        rcases List.mem_cons.mp h with e | e
        · exact e
        · exact absurd e hu
      subst e
      -- setting i at the end hides what stood there
      have key : ∀ (ws : List Nat), (L2.wipe (σ.set i x) ws).set i none = (L2.wipe σ ws).set i none := by
        intro ws
        induction ws with
        | nil => unfold L2.wipe; rw [List.set_set]
        | cons w ws ih =>
          unfold L2.wipe
          by_cases hw : w = i
          · subst hw; rw [List.set_set, List.set_set]; exact ih
          · rw [List.set_comm _ _ hw, List.set_comm _ _ hw, ih]
      exact key us
section
variable {K : Fg}
theorem tg_name (i : Nat) : TgOk K Rp (gName i) [i] (gVar i) := fun {θ G H σ ρ W v d ρ' Q} S r e q => by
  unfold gVar at e
  split at e
  · rename_i hi
    cases e
    obtain ⟨W', S', sb⟩ := S.put hi r
    exact q _ W' S' sb fun us hu => wipe_set (hu i List.mem_cons_self)
  · cases e
theorem tgs_nil : TgsOk K gNil [] gsNil := fun {θ G H σ ρ W xs ds ρ' Q} S r e q => by
  cases r with
  | nil => cases e; exact ⟨rfl, q _ _ S (List.Sublist.refl _) fun _ _ => rfl⟩
  | cons _ _ => cases e
theorem tgs_cons {t1 : TG} {t2 : TGs} {vs us : List Nat} {f : D → List Sl → Option (List Sl)} {g : List D → List Sl → Option (List Sl)} (r1 : TgOk K Rp t1 vs f) (r2 : TgsOk K t2 us g) : TgsOk K (gCons t1 t2) (vs ++ us) (gsCons f g) := fun {θ G H σ ρ W xs ds ρ' Q} S r e q => by
  cases r with
  | nil => cases e
  | @cons v d xs ds r rt =>
    unfold gsCons at e
    simp only [Option.bind_eq_some_iff] at e
    obtain ⟨ρ1, e1, e2⟩ := e
    refine ⟨v, xs, rfl, r1 S r e1 fun σ1 W1 S1 sb1 w1 => ?_⟩
    exact r2 S1 rt e2 fun σ2 W2 S2 sb2 w2 => q _ _ S2 (sb2.trans sb1) fun ws hw => (w2 ws fun i hi => hw i (List.mem_append_right _ hi)).trans (w1 ws fun i hi => hw i (List.mem_append_left _ hi))
theorem tg_tup {t1 : TGs} {vs : List Nat} {f : List D → List Sl → Option (List Sl)} {n : Nat} (r1 : TgsOk K t1 vs f) (hf : ∀ ds ρ ρ', f ds ρ = some ρ' → ds.length = n) : TgOk K RpI (gTup K n t1) vs (gTupD f) := fun {θ G H σ ρ W v d ρ' Q} S r e q => by
  cases r with
  | r r => cases r with
    | tup ht r => exact ⟨_, _, rfl, sameT S.same ht.t, by rw [r.length]; exact hf _ _ _ e, r1 S r e q⟩
    | _ => cases e
  | t ht r => exact ⟨_, _, rfl, SqT.of (S.same _ _ ht), by rw [r.length]; exact hf _ _ _ e, r1 S r e q⟩
theorem TgOk.r {t : TG} {vs : List Nat} {f : D → List Sl → Option (List Sl)} (h : TgOk K RpI t vs f) : TgOk K Rp t vs f := fun _ _ _ _ _ _ _ _ _ _ S r e q => h S (.r r) e q
theorem len_nil (ds : List D) (ρ ρ' : List Sl) (h : gsNil ds ρ = some ρ') : ds.length = 0 := by
  cases ds with
  | nil => rfl
  | cons _ _ => cases h
theorem len_cons {f : D → List Sl → Option (List Sl)} {g : List D → List Sl → Option (List Sl)} {n : Nat} (hg : ∀ ds ρ ρ', g ds ρ = some ρ' → ds.length = n) (ds : List D) (ρ ρ' : List Sl) (h : gsCons f g ds ρ = some ρ') : ds.length = n + 1 := by
  cases ds with
  | nil => cases h
  | cons d ds =>
    unfold gsCons at h
    simp only [Option.bind_eq_some_iff] at h
    obtain ⟨ρ1, _, e⟩ := h
    simp [hg _ _ _ e]
end

/-! ### comprehensions -/
/-- nothing may leave -/
abbrev W0 : WX := fun _ _ _ _ => False
/-- the turns -/
def lcGo (f : D → List Sl → Option (List Sl)) (t : List Sl → R Bool) (g : List Sl → R D) (ρ : List Sl) : List D → R (List D)
  | [] => .ok []
  | d :: ds => match f d ρ with
    | none => .st
    | some ρ1 => (t ρ1).bind fun b => if b then (g ρ1).bind fun y => (lcGo f t g ρ ds).bind fun ys => .ok (y :: ys) else lcGo f t g ρ ds
def noEx {α : Type} : R α → R α
  | .ok a => .ok a
  | _ => .st
def pLc (src : List Sl → R (List D)) (vs : List Nat) (f : D → List Sl → Option (List Sl)) (t : List Sl → R Bool) (g : List Sl → R D) (ρ : List Sl) : R D :=
  (src ρ).bind fun items => (noEx (lcGo f t g (wipeS ρ vs) items)).bind mkL
def tYes' (_ : List Sl) : R Bool := .ok true
structure DTs (X : Cx) (W : WX) (ifs : List Expr) (g : List Sl → R Bool) : Prop where
  run : PTs X ifs (tT X.K W g)
theorem PTs.conseq {X : Cx} {e : List Expr} {t t' : TT} (h : PTs X e t) (w : ∀ σ H Q, t' σ H Q → t σ H Q) : PTs X e t' := ⟨fun pins s σ H Q I q => h.run pins s σ H Q I (w _ _ _ q)⟩
theorem dts_nil {X : Cx} {W : WX} : DTs X W [] tYes' := ⟨PTs.conseq pts_nil fun σ H Q ⟨θ, G, ρ, Ws, q⟩ => Tk.val q⟩
theorem dts_one {X : Cx} {W : WX} {c : Expr} {g : List Sl → R Bool} (h : DT X W c g) : DTs X W [c] g := ⟨pts_one h.run⟩
section
variable {K : Fg} {θ : Nat → Addr} {G H G0 H0 : Hp} {D0 : Addr} {o : HO}
theorem LLs.aside {as : List Addr} {dss : List (List D)} (h : LLs K G H as dss) (hd : D0 ∉ as) : LLs K G (upd H D0 o) as dss := by
  induction h with
  | nil => exact .nil
  | cons h r _ ih =>
    refine .cons (by rw [upd_ne (fun z => hd (by simp [z]))]; exact h) r (ih fun z => hd (List.mem_cons_of_mem _ z))
theorem Own.aside {v : V} {w : Ow} {fp : List Addr} (h : Own K G H v w fp) (hd : D0 ∉ fp) : Own K G (upd H D0 o) v w fp := by
  cases h with
  | lst h r => exact .lst (by rw [upd_ne (fun z => hd (by simp [z]))]; exact h) r
  | ll h r => exact .ll (by rw [upd_ne (fun z => hd (by simp [z]))]; exact h) (r.aside fun z => hd (List.mem_cons_of_mem _ z))
  | dk h r => exact .dk (by rw [upd_ne (fun z => hd (by simp [z]))]; exact h) r
  | dt h r => exact .dt (by rw [upd_ne (fun z => hd (by simp [z]))]; exact h) r
  | ins h h2 r => exact .ins (by rw [upd_ne (fun z => hd (by simp [z]))]; exact h) (by rw [upd_ne (fun z => hd (by simp [z]))]; exact h2) r
theorem Sts.aside {σ : List (Option V)} {ρ : List Sl} {W : List Addr} (h : Sts K θ G H σ ρ W) (hd : D0 ∉ W) : Sts K θ G (upd H D0 o) σ ρ W := by
  induction h with
  | nil => exact .nil
  | un _ ih => exact .un (ih hd)
  | val r _ ih => exact .val r (ih hd)
  | own r t _ ih => exact .own (r.aside fun z => hd (List.mem_append_left _ z)) t (ih fun z => hd (List.mem_append_right _ z))
theorem same_aside (s : Same G H) (g : G D0 = none) : Same G (upd H D0 o) := fun b u e => by
  rw [upd_ne (ne_of_none e g)]; exact s b u e
theorem Stt.aside {σ : List (Option V)} {ρ : List Sl} {W : List Addr} (h : Stt K θ G H σ ρ W) (hd : D0 ∉ W) (g : G D0 = none) : Stt K θ G (upd H D0 o) σ ρ W :=
  ⟨same_aside h.same g, h.sts.aside hd, h.nd, h.out⟩
theorem Ext.updD (e : Ext G0 H0 G H) (h0 : H0 D0 = none) (g : G D0 = none) : Ext G0 H0 G (upd H D0 o) :=
  ⟨e.g, fun b u q => by rw [upd_ne (ne_of_none q h0)]; exact e.h b u q, same_aside e.s g, e.nw⟩
end
section
variable {X : Cx} {W : WX} {elt tg iter : Expr} {ifs : List Expr} {scope : Scope} {own : List (Str × Nat)} {pos : Pos} {src : List Sl → R (List D)} {vs : List Nat} {f : D → List Sl → Option (List Sl)} {t : List Sl → R Bool} {g : List Sl → R D}
theorem lc_turns {wi : TI} {gg : TG} {K : Fg} {Pz : PZ} (hg : TgOk K Pz gg vs f)
    {us : List Nat} (hv : ∀ i ∈ vs, i ∈ us) {θ : Nat → Addr} {G H : Hp} {σ : L2.St} {ρ : List Sl} {Ws : List Addr} (S : Stt K θ G H σ ρ Ws) {items all : List D} (hall : lcGo f t g (wipeS ρ us) items = .ok all) (hfit : all.length ≤ sizeLine)
    {J : It} (hJ : GoesD K Pz J G items) {D0 : Addr} (hD : H D0 = none) {Q : VK}
    (q : ∀ p xs G' H', Ext G H G' H' → H p = none → G' p = none → H' p = some (.lst xs) → RpA K G' xs all → Q (.ref p) H') :
    ∃ Wi : Nat → Nat → Hp → Prop, (∃ m, Wi 0 m (upd H D0 (.lst []))) ∧ ∀ i m H, Wi i m H →
      (J.stop i H ∧ Q (.ref D0) H) ∨ (J.go i H ∧ ∃ Nx : Hp → Prop, (∀ H', Nx H' → ∃ m', m' < m ∧ Wi (i + 1) m' H') ∧ ∀ x H', J.yld i H x H' → gg x (L2.wipe σ us) H' fun σ2 H2 => L2.wipe σ2 us = L2.wipe σ us ∧ tT K W0 t σ2 H2 fun b H3 =>
        if b = true then tZ Zc K W0 g σ2 H3 fun y H4 => ∃ acc, H4 D0 = some (.lst acc) ∧ acc.length < sizeLine ∧ Nx (upd H4 D0 (.lst (acc ++ [y]))) else Nx H3) := by
  have gD : G D0 = none := S.same.free hD
  have nW : D0 ∉ Ws := fun z => by
    obtain ⟨u, hu⟩ := S.sts.in_ D0 z
    rw [hD] at hu; cases hu
  -- what holds at turn i: ys is made
  let Wi : Nat → Nat → Hp → Prop := fun i m H1 => m = items.length - i ∧ i ≤ items.length ∧ ∃ G1 acc ys zs, Ext G H G1 H1 ∧ G1 D0 = none ∧ H1 D0 = some (.lst acc) ∧ RpA K G1 acc ys ∧ lcGo f t g (wipeS ρ us) (items.drop i) = .ok zs ∧ all = ys ++ zs ∧ Stt K θ G1 H1 σ ρ Ws
  refine ⟨Wi, ⟨items.length, rfl, Nat.zero_le _, G, [], [], all, (Ext.refl S.same).updD hD gD, gD, upd_same, .nil, by simpa using hall, rfl, S.aside nW gD⟩, ?_⟩
  rintro i m H1 ⟨rfl, hi, G1, acc, ys, zs, e1, g1, h1, ra, hz, ea, S1⟩
  by_cases hlt : i < items.length
  · refine .inr ?_
    obtain ⟨d, hd⟩ : ∃ d, items[i]? = some d := ⟨_, List.getElem?_eq_getElem hlt⟩
    obtain ⟨go, yl⟩ := (hJ i G1 H1 e1.g S1.same).1 d hd
    have hdr : items.drop i = d :: items.drop (i + 1) := by
      rw [List.drop_eq_getElem_cons hlt]
      rw [List.getElem?_eq_getElem hlt] at hd
      cases hd; rfl
    rw [hdr] at hz
    refine ⟨go, Wi (i + 1) (items.length - (i + 1)), fun H' w' => ⟨_, by omega, w'⟩, fun x H' y => ?_⟩
    obtain ⟨G2, e2, rx⟩ := yl x H' y
    unfold lcGo at hz
    cases hf : f d (wipeS ρ us) with
    | none => rw [hf] at hz; cases hz
    | some ρ2 =>
      rw [hf] at hz
      have hz : ((t ρ2).bind fun b => if b then (g ρ2).bind fun y => (lcGo f t g (wipeS ρ us) (items.drop (i + 1))).bind fun ys => .ok (y :: ys) else lcGo f t g (wipeS ρ us) (items.drop (i + 1))) = .ok zs := hz
      have S2 := S1.ext e2
      obtain ⟨Wp, Sw, sbw⟩ := S2.wipe us
      refine hg Sw rx hf fun σ2 W2 S3 sb3 wq => ⟨(wq us hv).trans ?_, ?_⟩
      · -- wiping twice
        have idem : ∀ (ws : List Nat) (τ : L2.St), (∀ i ∈ ws, i ∈ us) → L2.wipe (L2.wipe τ ws) us = L2.wipe τ us := by
          intro ws
          induction ws with
          | nil => intro τ _; rfl
          | cons w ws ih =>
            intro τ hw
            show L2.wipe ((L2.wipe τ ws).set w none) us = _
            rw [wipe_set (hw w List.mem_cons_self)]
            exact ih τ fun i hi => hw i (List.mem_cons_of_mem _ hi)
        exact idem us σ fun _ h => h
      · cases ht : t ρ2 with
        | st => rw [ht] at hz; cases hz
        | ex x => rw [ht] at hz; cases hz
        | ok b =>
          rw [ht] at hz
          refine ⟨θ, G2, ρ2, W2, S3, ?_⟩
          rw [ht]
          intro G3 H3 e3
          have e13 := e2.trans e3
          have g3 : G3 D0 = none := by
            cases q3 : G3 D0 with
            | none => rfl
            | some u =>
              rcases e13.nw D0 u q3 with z | z
              · rw [g1] at z; cases z
              · rw [h1] at z; cases z
          have h3 : H3 D0 = some (.lst acc) := e13.h _ _ h1
          cases b with
          | false =>
            refine iteF ⟨rfl, hlt, G3, acc, ys, zs, e1.trans e13, g3, h3, ra.mono e13.g, hz, ea, S1.ext e13⟩
          | true =>
            refine iteT ?_
            have hz : ((g ρ2).bind fun y => (lcGo f t g (wipeS ρ us) (items.drop (i + 1))).bind fun ys => .ok (y :: ys)) = .ok zs := hz
            cases hgv : g ρ2 with
            | st => rw [hgv] at hz; cases hz
            | ex x => rw [hgv] at hz; cases hz
            | ok dy =>
              rw [hgv] at hz
              refine ⟨θ, G3, ρ2, W2, S3.ext e3, ?_⟩
              rw [hgv]
              intro yv G4 H4 e4 ry
              cases hr : lcGo f t g (wipeS ρ us) (items.drop (i + 1)) with
              | st => rw [hr] at hz; cases hz
              | ex x => rw [hr] at hz; cases hz
              | ok zs' =>
                rw [hr] at hz
                have hz : R.ok (dy :: zs') = .ok zs := hz
                cases hz
                have e14 := e13.trans e4
                have g4 : G4 D0 = none := by
                  cases q4 : G4 D0 with
                  | none => rfl
                  | some u =>
                    rcases e14.nw D0 u q4 with z | z
                    · rw [g1] at z; cases z
                    · rw [h1] at z; cases z
                have hlen : acc.length < sizeLine := by
                  rw [ra.length]
                  rw [ea, List.length_append, List.length_cons] at hfit
                  omega
                refine ⟨acc, e14.h _ _ h1, hlen, rfl, hlt, G4, acc ++ [yv], ys ++ [dy], zs', (e1.trans e14).updD hD g4, g4, upd_same, (ra.mono e14.g).append (.cons ry .nil), hr, by rw [ea]; simp, (S1.ext e14).aside nW g4⟩
  · have e : i = items.length := by omega
    subst e
    rw [List.drop_length] at hz
    have hz : R.ok ([] : List D) = .ok zs := hz
    cases hz
    rw [List.append_nil] at ea
    subst ea
    exact .inl ⟨(hJ _ G1 H1 e1.g S1.same).2 (Nat.le_refl _), q D0 acc G1 H1 e1 hD g1 h1 ra⟩
/-- the reading of a comprehension -/
theorem tLc_ok {gg : TG} {Pz : PZ} (hg : TgOk X.K Pz gg vs f) {us : List Nat} (hv : ∀ i ∈ vs, i ∈ us) {σ : L2.St} {H : Hp} {Q : VK} (h : tF X.K W (pLc src us f t g) σ H Q) :
    tLc (tI X.K Pz W src) gg (tT X.K W0 t) (tZ Zc X.K W0 g) us σ H Q := by
  obtain ⟨θ, G, ρ, Ws, S, q⟩ := h
  refine ⟨θ, G, ρ, Ws, S, ?_⟩
  unfold pLc at q
  cases hs : src ρ with
  | st => rw [hs] at q; exact q
  | ex x => rw [hs] at q; exact q
  | ok items =>
    rw [hs] at q
    intro J G1 H1 e1 hJ D0 hD
    cases hl : lcGo f t g (wipeS ρ us) items with
    | st => rw [R.bind_ok, hl] at q; exact q.elim
    | ex x => rw [R.bind_ok, hl] at q; exact q.elim
    | ok all =>
      rw [R.bind_ok, hl] at q
      have q : match mkL all with | .ok (.lst ds) => ∀ p vs G' H', Ext G H G' H' → H p = none → G' p = none → H' p = some (.lst vs) → RpA X.K G' vs ds → Q (.ref p) H' | .ok _ => False | .ex x => ∀ d G' H', Ext G H G' H' → XkOk X.K G' H' x d → W (.ref x.cls) d σ H' | .st => False := q
      unfold mkL at q
      by_cases hf : fits all = true
      · rw [if_pos hf] at q
        exact lc_turns (wi := tI X.K Pz W src) hg hv (S.ext e1) hl (of_decide_eq_true hf) hJ hD fun p xs G' H' e' hp gp hp' r => q p xs G' H' (e1.trans e') (e1.h.free hp) gp hp' r
      · rw [if_neg hf] at q; exact q.elim
theorem df_lc (hc : X.calm = true) (hN : X.N.Nodup) {Pz : PZ} (hi : DI X Pz W tg iter src) (ok : BlkOk X.N X.env.scope scope own) {gg : TG}
    (hgP : ∀ (s : Shared) (H : Hp) (C : Addr) (cl : List (Str × Addr)) (fp : List Addr), PG (X.blk s H scope (compEnvC scope cl C X.env) fp) tg gg)
    (hg : TgOk X.K Pz gg vs f) (hv : ∀ i ∈ vs, i ∈ own.map (·.2))
    (ht : ∀ (s : Shared) (H : Hp) (C : Addr) (cl : List (Str × Addr)) (fp : List Addr), DTs (X.blk s H scope (compEnvC scope cl C X.env) fp) W0 ifs t)
    (he : ∀ (s : Shared) (H : Hp) (C : Addr) (cl : List (Str × Addr)) (fp : List Addr), DP (X.blk s H scope (compEnvC scope cl C X.env) fp) W0 elt g)
    (hs : ∀ x, foldedSetIterable iter X.env x = pure x := by intro _; rfl) : DF X W (.ListComp elt [⟨tg, iter, ifs, 0⟩] scope pos) (pLc src (own.map (·.2)) f t g) :=
  ⟨PE.conseq (pe_lc hc hN hi.run ok hgP (fun s H C cl fp => (ht s H C cl fp).run) (fun s H C cl fp => (he s H C cl fp).run) hs) fun σ H Q q => tLc_ok hg hv q⟩
end
end DL

set_option Elab.async false
set_option linter.all false
set_option maxRecDepth 100000
set_option maxHeartbeats 2000000
/-! The data layer, sixth part: what changes owned things; statements. -/
namespace DL
open PySem PySem.Spec PyProof.Rows L2

/-! ### the frame of a step: only what is owned changes -/
structure Fr (G H : Hp) (W : List Addr) (G' H' : Hp) (W' : List Addr) : Prop where
  g : Same G G'
  k : ∀ a o, H a = some o → a ∉ W → H' a = some o
  w : ∀ a ∈ W', a ∈ W ∨ H a = none
  n : ∀ a o, G' a = some o → G a = some o ∨ a ∈ W ∨ H a = none
  al : ∀ a, H' a = none → H a = none
theorem al_same {H H' : Hp} (s : Same H H') : ∀ a, H' a = none → H a = none := fun _ h => s.free h
section
variable {G H G1 H1 G2 H2 : Hp} {W W1 W2 : List Addr}
theorem Fr.refl : Fr G H W G H W := ⟨Same.refl _, fun _ _ h _ => h, fun _ h => .inl h, fun _ _ h => .inl h, fun _ h => h⟩
theorem Fr.of (e : Ext G H G1 H1) : Fr G H W G1 H1 W := ⟨e.g, fun a o h _ => e.h a o h, fun _ h => .inl h, fun a o h => (e.nw a o h).elim .inl fun z => .inr (.inr z), al_same e.h⟩
theorem Fr.trans (a : Fr G H W G1 H1 W1) (b : Fr G1 H1 W1 G2 H2 W2) : Fr G H W G2 H2 W2 := by
  have back : ∀ c, c ∈ W1 ∨ H1 c = none → c ∈ W ∨ H c = none := fun c hc => by
    rcases hc with hc | hc
    · exact a.w c hc
    · by_cases hw : c ∈ W
      · exact .inl hw
      · refine .inr ?_
        cases q : H c with
        | none => rfl
        | some o => rw [a.k c o q hw] at hc; cases hc
  refine ⟨a.g.trans b.g, fun c o h hw => b.k c o (a.k c o h hw) fun z => ?_, fun c hc => back c (b.w c hc), fun c o h => ?_, fun c h => a.al c (b.al c h)⟩
  · rcases a.w c z with q | q
    · exact hw q
    · rw [h] at q; cases q
  · rcases b.n c o h with q | q
    · exact a.n c o q
    · exact .inr (back c q)
theorem Fr.less (a : Fr G H W G1 H1 W1) (h : ∀ c ∈ W2, c ∈ W1) : Fr G H W G1 H1 W2 := ⟨a.g, a.k, fun c hc => a.w c (h c hc), a.n, a.al⟩
end

/-! ### one owned thing in focus -/
theorem LLs.keep {K : Fg} {G H G' H' : Hp} {as : List Addr} {dss : List (List D)} (h : LLs K G H as dss) (g : Same G G') (k : ∀ a ∈ as, ∀ u, H a = some u → H' a = some u) : LLs K G' H' as dss := by
  induction h with
  | nil => exact .nil
  | cons h r _ ih => exact .cons (k _ List.mem_cons_self _ h) (r.mono g) (ih fun a ha => k a (List.mem_cons_of_mem _ ha))
theorem Own.keep {K : Fg} {G H G' H' : Hp} {v : V} {o : Ow} {fp : List Addr} (h : Own K G H v o fp) (g : Same G G') (k : ∀ a ∈ fp, ∀ u, H a = some u → H' a = some u) : Own K G' H' v o fp := by
  cases h with
  | lst h r => exact .lst (k _ (by simp) _ h) (r.mono g)
  | ll h r => exact .ll (k _ List.mem_cons_self _ h) (r.keep g fun a ha => k a (List.mem_cons_of_mem _ ha))
  | dk h r => exact .dk (k _ (by simp) _ h) (r.mono g)
  | dt h r => exact .dt (k _ (by simp) _ h) (r.mono g)
  | ins h h2 r => exact .ins (k _ (by simp) _ h) (k _ (by simp) _ h2) (r.mono g)
section
variable {K : Fg} {θ : Nat → Addr} {G H : Hp}
theorem Sts.keep {G' H' : Hp} {σ : List (Option V)} {ρ : List Sl} {W : List Addr} (h : Sts K θ G H σ ρ W) (g : Same G G') (k : ∀ a ∈ W, ∀ u, H a = some u → H' a = some u) : Sts K θ G' H' σ ρ W := by
  induction h with
  | nil => exact .nil
  | un _ ih => exact .un (ih k)
  | val r _ ih => exact .val (r.mono g) (ih k)
  | own r t _ ih => exact .own (r.keep g fun a ha => k a (List.mem_append_left _ ha)) t (ih fun a ha => k a (List.mem_append_right _ ha))
theorem Sts.focus {σ : List (Option V)} {ρ : List Sl} {W : List Addr} (h : Sts K θ G H σ ρ W) {i t : Nat} {o : Ow} (e : ρ[i]? = some (.own t o)) :
    ∃ v fp A B, σ[i]? = some (some v) ∧ Own K G H v o fp ∧ (t = 0 ∨ v = .ref (θ t)) ∧ W = A ++ fp ++ B ∧
      ∀ G' H', Same G G' → (∀ a ∈ A ++ B, ∀ u, H a = some u → H' a = some u) →
        (∀ o' fp', Own K G' H' v o' fp' → Sts K θ G' H' σ (ρ.set i (.own t o')) (A ++ fp' ++ B)) ∧ (∀ d, Rp K G' v d → Sts K θ G' H' σ (ρ.set i (.val d)) (A ++ B)) := by
  induction h generalizing i with
  | nil => simp at e
  | un h0 ih =>
    cases i with
    | zero => simp at e
    | succ i =>
      obtain ⟨v, fp, A, B, h1, h2, h3, h4, h5⟩ := ih (i := i) (by simpa using e)
      refine ⟨v, fp, A, B, by simpa using h1, h2, h3, h4, fun G' H' g k => ⟨fun o' fp' q => .un ((h5 G' H' g k).1 o' fp' q), fun d q => .un ((h5 G' H' g k).2 d q)⟩⟩
  | val r0 h0 ih =>
    cases i with
    | zero => simp at e
    | succ i =>
      obtain ⟨v, fp, A, B, h1, h2, h3, h4, h5⟩ := ih (i := i) (by simpa using e)
      refine ⟨v, fp, A, B, by simpa using h1, h2, h3, h4, fun G' H' g k => ⟨fun o' fp' q => .val (r0.mono g) ((h5 G' H' g k).1 o' fp' q), fun d q => .val (r0.mono g) ((h5 G' H' g k).2 d q)⟩⟩
  | @own v0 t0 o0 fp0 σ0 ρ0 W0 r0 tt0 h0 ih =>
    cases i with
    | zero =>
      simp at e
      obtain ⟨rfl, rfl⟩ := e
      refine ⟨v0, fp0, [], W0, rfl, r0, tt0, rfl, fun G' H' g k => ?_⟩
      have hk := h0.keep g (fun a ha u hu => k a (by simpa using ha) u hu)
      exact ⟨fun o' fp' q => .own q tt0 hk, fun d q => .val q hk⟩
    | succ i =>
      obtain ⟨v, fp, A, B, h1, h2, h3, h4, h5⟩ := ih (i := i) (by simpa using e)
      subst h4
      refine ⟨v, fp, fp0 ++ A, B, by simpa using h1, h2, h3, by simp, fun G' H' g k => ?_⟩
      have ho := r0.keep (G' := G') (H' := H') g fun a ha u hu => k a (by simp [ha]) u hu
      obtain ⟨z1, z2⟩ := h5 G' H' g fun a ha u hu => k a (by simp only [List.append_assoc]; exact List.mem_append_right _ ha) u hu
      refine ⟨fun o' fp' q => ?_, fun d q => ?_⟩
      · have := Sts.own ho tt0 (z1 o' fp' q)
        simpa [List.append_assoc] using this
      · have := Sts.own ho tt0 (z2 d q)
        simpa [List.append_assoc] using this
theorem nodup_mid {A fp B : List Addr} (h : (A ++ fp ++ B).Nodup) : fp.Nodup ∧ (A ++ B).Nodup ∧ ∀ a ∈ fp, a ∉ A ++ B := by
  have p : (A ++ fp ++ B).Perm (fp ++ (A ++ B)) := by
    rw [List.append_assoc]
    refine (List.perm_append_comm_assoc A fp B).trans ?_
    exact List.Perm.refl _
  have h2 := p.nodup_iff.mp h
  rw [List.nodup_append] at h2
  exact ⟨h2.1, h2.2.1, fun a ha hb => h2.2.2 a ha a hb rfl⟩
theorem nodup_mid' {A fp B : List Addr} (h1 : fp.Nodup) (h2 : (A ++ B).Nodup) (h3 : ∀ a ∈ fp, a ∉ A ++ B) : (A ++ fp ++ B).Nodup := by
  have p : (A ++ fp ++ B).Perm (fp ++ (A ++ B)) := by
    rw [List.append_assoc]
    exact List.perm_append_comm_assoc A fp B
  refine p.nodup_iff.mpr (List.nodup_append.mpr ⟨h1, h2, fun a ha b hb z => h3 a ha (z ▸ hb)⟩)
/-- what is owned is frozen -/
def frz (G H : Hp) (fp : List Addr) : Hp := fun a => if a ∈ fp then H a else G a
theorem frz_g {fp : List Addr} (h : ∀ a ∈ fp, G a = none) : Same G (frz G H fp) := fun a o e => by
  unfold frz
  by_cases ha : a ∈ fp
  · rw [h a ha] at e; cases e
  · rw [if_neg ha]; exact e
theorem frz_s {fp : List Addr} (s : Same G H) : Same (frz G H fp) H := fun a o e => by
  unfold frz at e
  by_cases ha : a ∈ fp
  · rw [if_pos ha] at e; exact e
  · rw [if_neg ha] at e; exact s a o e
def Ow.d : Ow → D
  | .lst ds => .lst ds
  | .ll dss => .lst (dss.map .lst)
  | .dk kvs => .dct kvs
  | .dt _ => .non
  | .ins C fs => .ins C fs
def Ow.can : Ow → Bool
  | .dt _ => false
  | _ => true
theorem LLs.frz {as fp : List Addr} {dss : List (List D)} (h : LLs K G H as dss) (g : Same G (DL.frz G H fp)) (hs : ∀ a ∈ as, a ∈ fp) : RpA K (DL.frz G H fp) (as.map V.ref) (dss.map D.lst) := by
  induction h with
  | nil => exact .nil
  | cons h r _ ih =>
    refine .cons (.lst ?_ (r.mono g)) (ih fun a ha => hs a (List.mem_cons_of_mem _ ha))
    unfold DL.frz
    rw [if_pos (hs _ List.mem_cons_self)]
    exact h
theorem Own.frz {v : V} {o : Ow} {fp : List Addr} (h : Own K G H v o fp) (ho : o.can = true) (g0 : ∀ a ∈ fp, G a = none) : Rp K (DL.frz G H fp) v o.d := by
  have g := frz_g (H := H) g0
  cases h with
  | lst h r => exact .lst (by unfold DL.frz; rw [if_pos (by simp)]; exact h) (r.mono g)
  | ll h r => exact .lst (by unfold DL.frz; rw [if_pos List.mem_cons_self]; exact h) (r.frz g fun a ha => List.mem_cons_of_mem _ ha)
  | dk h r => exact .dct (by unfold DL.frz; rw [if_pos (by simp)]; exact h) (r.mono g)
  | dt h r => cases ho
  | ins h h2 r => exact .ins (by unfold DL.frz; rw [if_pos (by simp)]; exact h) (by unfold DL.frz; rw [if_pos (by simp)]; exact h2) (r.mono g)
/-- a new owned thing at slot i -/
theorem Sts.putOwn {σ : List (Option V)} {ρ : List Sl} {W : List Addr} (h : Sts K θ G H σ ρ W) {i : Nat} {v : V} {o : Ow} {fp : List Addr} (hi : i < ρ.length) (r : Own K G H v o fp) :
    ∃ A B, Sts K θ G H (σ.set i (some v)) (ρ.set i (.own 0 o)) (A ++ fp ++ B) ∧ (A ++ B).Sublist W := by
  induction h generalizing i with
  | nil => cases hi
  | un h0 ih =>
    cases i with
    | zero => exact ⟨[], _, .own r (.inl rfl) h0, List.Sublist.refl _⟩
    | succ i =>
      obtain ⟨A, B, h1, h2⟩ := ih (i := i) (by simpa using hi)
      exact ⟨A, B, .un h1, h2⟩
  | val r0 h0 ih =>
    cases i with
    | zero => exact ⟨[], _, .own r (.inl rfl) h0, List.Sublist.refl _⟩
    | succ i =>
      obtain ⟨A, B, h1, h2⟩ := ih (i := i) (by simpa using hi)
      exact ⟨A, B, .val r0 h1, h2⟩
  | @own v0 k0 o0 fp0 σ0 ρ0 W0 r0 t0 h0 ih =>
    cases i with
    | zero => exact ⟨[], _, .own r (.inl rfl) h0, List.sublist_append_right _ _⟩
    | succ i =>
      obtain ⟨A, B, h1, h2⟩ := ih (i := i) (by simpa using hi)
      refine ⟨fp0 ++ A, B, ?_, ?_⟩
      · have := Sts.own r0 t0 h1
        simpa [List.append_assoc] using this
      · simpa [List.append_assoc] using (List.Sublist.refl fp0).append h2
theorem Stt.putOwn {σ : List (Option V)} {ρ : List Sl} {W : List Addr} (h : Stt K θ G H σ ρ W) {i : Nat} {v : V} {o : Ow} {fp : List Addr} (hi : i < ρ.length) (r : Own K G H v o fp) (hn : fp.Nodup) (hd : ∀ a ∈ fp, a ∉ W) (hg : ∀ a ∈ fp, G a = none) :
    ∃ W', Stt K θ G H (σ.set i (some v)) (ρ.set i (.own 0 o)) W' ∧ ∀ a ∈ W', a ∈ fp ∨ a ∈ W := by
  obtain ⟨A, B, h1, h2⟩ := h.sts.putOwn hi r
  have mem : ∀ a ∈ A ++ fp ++ B, a ∈ fp ∨ a ∈ W := fun a ha => by
    rcases List.mem_append.mp ha with q | q
    · rcases List.mem_append.mp q with q | q
      · exact .inr (h2.subset (List.mem_append_left _ q))
      · exact .inl q
    · exact .inr (h2.subset (List.mem_append_right _ q))
  refine ⟨_, ⟨h.same, h1, nodup_mid' hn (h.nd.sublist h2) fun a ha hb => hd a ha (h2.subset hb), fun a ha => (mem a ha).elim (hg a) (h.out a)⟩, mem⟩
end

/-! ### results that change the state -/
inductive RE where
  | ok (d : D) (ρ : List Sl) | ex (x : Exn) (ρ : List Sl) | st
def RE.bind (r : RE) (f : D → List Sl → RE) : RE := match r with
  | .ok d ρ => f d ρ
  | .ex x ρ => .ex x ρ
  | .st => .st
@[simp] theorem RE.bind_ok (d : D) (ρ : List Sl) (f : D → List Sl → RE) : (RE.ok d ρ).bind f = f d ρ := rfl
@[simp] theorem RE.bind_ex (d : Exn) (ρ : List Sl) (f : D → List Sl → RE) : (RE.ex d ρ).bind f = .ex d ρ := rfl
@[simp] theorem RE.bind_st (f : D → List Sl → RE) : (RE.st).bind f = .st := rfl
/-- a result that leaves the state -/
def up (r : R D) (ρ : List Sl) : RE := match r with
  | .ok d => .ok d ρ
  | .ex x => .ex x ρ
  | .st => .st
@[simp] theorem up_ok (d : D) (ρ : List Sl) : up (.ok d) ρ = .ok d ρ := rfl
@[simp] theorem up_st (ρ : List Sl) : up .st ρ = .st := rfl
def liftE (g : List Sl → R D) (ρ : List Sl) : RE := up (g ρ) ρ
def Ek (K : Fg) (W : WX) (σ : L2.St) (θ : Nat → Addr) (G H : Hp) (Ws : List Addr) (r : RE) (Q : VK) : Prop := match r with
  | .ok d ρ' => ∀ v G' H' W', Fr G H Ws G' H' W' → Stt K θ G' H' σ ρ' W' → Rp K G' v d → Q v H'
  | .ex x ρ' => ∀ d G' H' W', Fr G H Ws G' H' W' → Stt K θ G' H' σ ρ' W' → XkOk K G' H' x d → W (.ref x.cls) d σ H'
  | .st => False
def tE (K : Fg) (W : WX) (f : List Sl → RE) : TE := fun σ H Q => ∃ θ G ρ Ws, Stt K θ G H σ ρ Ws ∧ Ek K W σ θ G H Ws (f ρ) Q
structure DE (X : Cx) (W : WX) (e : Expr) (f : List Sl → RE) : Prop where
  run : PE X e (tE X.K W f)
section
variable {K : Fg} {W : WX} {σ : L2.St} {θ : Nat → Addr} {G H G1 H1 : Hp} {Ws W1 : List Addr} {r : RE} {Q Q' : VK}
theorem Ek.fr (h : Ek K W σ θ G H Ws r Q) (e : Fr G H Ws G1 H1 W1) : Ek K W σ θ G1 H1 W1 r Q := by
  cases r with
  | ok d ρ' => exact fun v G' H' W' e' => h v G' H' W' (e.trans e')
  | ex x ρ' => exact fun v G' H' W' e' => h v G' H' W' (e.trans e')
  | st => exact h
theorem Ek.imp (h : Ek K W σ θ G H Ws r Q) (q : ∀ v H', Q v H' → Q' v H') : Ek K W σ θ G H Ws r Q' := by
  cases r with
  | ok d ρ' => exact fun v G' H' W' e' s z => q _ _ (h v G' H' W' e' s z)
  | ex x ρ' => exact h
  | st => exact h
theorem Ek.bind {k : D → List Sl → RE} (h : Ek K W σ θ G H Ws (r.bind k) Q) : Ek K W σ θ G H Ws r (fun v H1 => ∃ d ρ1 G1 W1, Fr G H Ws G1 H1 W1 ∧ Stt K θ G1 H1 σ ρ1 W1 ∧ Rp K G1 v d ∧ Ek K W σ θ G1 H1 W1 (k d ρ1) Q) := by
  cases r with
  | ok d ρ' => exact fun v G' H' W' e' s z => ⟨d, ρ', G', W', e', s, z, h.fr e'⟩
  | ex x ρ' => exact h
  | st => exact h
/-- a pure end -/
theorem Ek.pk {r : R D} {ρ : List Sl} (S : Stt K θ G H σ ρ Ws) (h : Ek K W σ θ G H Ws (up r ρ) Q) : Pk Zc K W σ θ G ρ Ws H r Q := by
  refine ⟨S, ?_⟩
  cases r with
  | ok d => exact fun v G' H' e z => h v G' H' Ws (Fr.of e) (S.ext e) z
  | ex x => exact fun v G' H' e z => h v G' H' Ws (Fr.of e) (S.ext e) z
  | st => exact h
end
def e1 (f : D → R D) (fa : List Sl → RE) (ρ : List Sl) : RE := (fa ρ).bind fun x ρ1 => up (f x) ρ1
def e2 (f : D → D → R D) (fa fb : List Sl → RE) (ρ : List Sl) : RE := (fa ρ).bind fun x ρ1 => (fb ρ1).bind fun y ρ2 => up (f x y) ρ2
section
variable {X : Cx} {W : WX} {e a b c : Expr} {g : List Sl → R D} {fa fb fc : List Sl → RE} {pos : Pos} {Za Zb : ZK}
theorem DP.de (h : DP X W e g) : DE X W e (liftE g) := ⟨PE.conseq h.run fun σ H Q ⟨θ, G, ρ, Ws, S, q⟩ => ⟨θ, G, ρ, Ws, Ek.pk S q⟩⟩
theorem tE_1 [ZOk Za] {r : V → Hp → VK → Prop} {f : D → R D} {K : Fg} (op : Op1 K Za r f) {σ H Q} (h : tE K W (e1 f fa) σ H Q) : tE K W fa σ H fun x H1 => r x H1 Q := by
  obtain ⟨θ, G, ρ, Ws, S, q⟩ := h
  exact ⟨θ, G, ρ, Ws, S, q.bind.imp fun x H1 ⟨d, ρ1, G1, W1, _, S1, z, q1⟩ => op (ZOk.of S1.same z) (Ek.pk S1 q1)⟩
theorem tE_2 [ZOk Za] [ZOk Zb] {r : V → V → Hp → VK → Prop} {f : D → D → R D} {K : Fg} (op : Op2 K Za Zb r f) {σ H Q} (h : tE K W (e2 f fa fb) σ H Q) : tE K W fa σ H fun x H1 => tE K W fb σ H1 fun y H2 => r x y H2 Q := by
  obtain ⟨θ, G, ρ, Ws, S, q⟩ := h
  exact ⟨θ, G, ρ, Ws, S, q.bind.imp fun x H1 ⟨d, ρ1, G1, W1, _, S1, z, q1⟩ => ⟨θ, G1, ρ1, W1, S1, q1.bind.imp fun y H2 ⟨d2, ρ2, G2, W2, f2, S2, z2, q2⟩ => op (ZOk.of S2.same (z.mono f2.g)) (ZOk.of S2.same z2) (Ek.pk S2 q2)⟩⟩
theorem de_bin [ZOk Za] [ZOk Zb] {op : Operator} {r : R2} {f : D → D → R D} (ho : OpR X (binaryOp op) r) (hd : Op2 X.K Za Zb r f) (ha : DE X W a fa) (hb : DE X W b fb) : DE X W (.BinOp a op b pos) (e2 f fa fb) :=
  ⟨PE.conseq (pe_op ho ha.run hb.run) fun _ _ _ h => tE_2 hd h⟩
theorem de_cmp [ZOk Za] [ZOk Zb] {op : CmpOp} {r : R2} {f : D → D → R D} (ho : OpR X (compareOp op) r) (hd : Op2 X.K Za Zb r f) (ha : DE X W a fa) (hb : DE X W b fb) (hm : behindInMarks op b = false) : DE X W (.Compare a [op] [b] pos) (e2 f fa fb) :=
  ⟨PE.conseq (pe_cmpR ho ha.run hb.run hm) fun _ _ _ h => tE_2 hd h⟩
theorem de_ix [ZOk Za] [ZOk Zb] {r : R2} {f : D → D → R D} (ho : IxR X r) (hd : Op2 X.K Za Zb r f) (ha : DE X W a fa) (hb : DE X W b fb) (hs : PlainIx b) : DE X W (.Subscript a b pos) (e2 f fa fb) :=
  ⟨PE.conseq (pe_ix ho ha.run hb.run hs) fun _ _ _ h => tE_2 hd h⟩
theorem de_call1 [ZOk Za] {r : List V → Hp → VK → Prop} {f : D → R D} (hd : Op1 X.K Za (fun x => r [x]) f) (ha : DE X W a fa) (hpe : ∀ t, PA X [a] t → PE X e (tCB r t))
    (hs : starEach [a] X.env = (false, eval a X.env) :: starEach [] X.env := by rfl) : DE X W e (e1 f fa) :=
  ⟨PE.conseq (hpe _ (pa_cons ha.run pa_nil hs)) fun _ _ _ h => tE_1 hd h⟩
theorem de_call2 [ZOk Za] [ZOk Zb] {r : List V → Hp → VK → Prop} {f : D → D → R D} (hd : Op2 X.K Za Zb (fun x y => r [x, y]) f) (ha : DE X W a fa) (hb : DE X W b fb) (hpe : ∀ t, PA X [a, b] t → PE X e (tCB r t))
    (hs : starEach [a, b] X.env = (false, eval a X.env) :: starEach [b] X.env := by rfl) (hs2 : starEach [b] X.env = (false, eval b X.env) :: starEach [] X.env := by rfl) : DE X W e (e2 f fa fb) :=
  ⟨PE.conseq (hpe _ (pa_cons ha.run (pa_cons hb.run pa_nil hs2) hs)) fun _ _ _ h => tE_2 hd h⟩
end

/-! ### statements -/
inductive Fl where
  | nx | rt (d : D) | rtO (o : Ow) | bk | ct
inductive RS where
  | ok (f : Fl) (ρ : List Sl) | ex (x : Exn) (ρ : List Sl) | st
def Fin (K : Fg) (W : WX) (θ : Nat → Addr) (G H : Hp) (Ws : List Addr) (r : RS) (E : Ends) : Prop := match r with
  | .ok .nx ρ' => ∀ σ' G' H' W', Fr G H Ws G' H' W' → Stt K θ G' H' σ' ρ' W' → E.nx σ' H'
  | .ok (.rt d) ρ' => ∀ v σ' G' H' W', Fr G H Ws G' H' W' → Stt K θ G' H' σ' ρ' W' → Rp K G' v d → E.rt v H'
  | .ok (.rtO o) ρ' => ∀ v fp σ' G' H' W', Fr G H Ws G' H' (fp ++ W') → Stt K θ G' H' σ' ρ' W' → Own K G' H' v o fp → fp.Nodup → (∀ a ∈ fp, a ∉ W') → (∀ a ∈ fp, G' a = none) → E.rt v H'
  | .ok .bk ρ' => ∀ σ' G' H' W', Fr G H Ws G' H' W' → Stt K θ G' H' σ' ρ' W' → E.bk σ' H'
  | .ok .ct ρ' => ∀ σ' G' H' W', Fr G H Ws G' H' W' → Stt K θ G' H' σ' ρ' W' → E.ct σ' H'
  | .ex x ρ' => ∀ d σ' G' H' W', Fr G H Ws G' H' W' → Stt K θ G' H' σ' ρ' W' → XkOk K G' H' x d → W (.ref x.cls) d σ' H'
  | .st => False
def tSt (K : Fg) (W : WX) (f : List Sl → RS) : TS := fun E σ H => ∃ θ G ρ Ws, Stt K θ G H σ ρ Ws ∧ Fin K W θ G H Ws (f ρ) E
structure DS (X : Cx) (W : WX) (s : Stmt) (f : List Sl → RS) : Prop where
  run : PS X s (tSt X.K W f)
structure DSs (X : Cx) (W : WX) (s : List Stmt) (f : List Sl → RS) : Prop where
  run : PSs X s (tSt X.K W f)
section
variable {K : Fg} {W : WX} {θ : Nat → Addr} {G H G1 H1 : Hp} {Ws W1 : List Addr} {r : RS} {E E' : Ends}
theorem Fin.fr (h : Fin K W θ G H Ws r E) (e : Fr G H Ws G1 H1 W1) : Fin K W θ G1 H1 W1 r E := by
  cases r with
  | ok f ρ' =>
    cases f with
    | nx => exact fun σ' G' H' W' e' => h σ' G' H' W' (e.trans e')
    | rt d => exact fun v σ' G' H' W' e' => h v σ' G' H' W' (e.trans e')
    | rtO o => exact fun v fp σ' G' H' W' e' => h v fp σ' G' H' W' (e.trans e')
    | bk => exact fun σ' G' H' W' e' => h σ' G' H' W' (e.trans e')
    | ct => exact fun σ' G' H' W' e' => h σ' G' H' W' (e.trans e')
  | ex x ρ' => exact fun d σ' G' H' W' e' => h d σ' G' H' W' (e.trans e')
  | st => exact h
theorem Fin.nx {ρ : List Sl} {σ : L2.St} (h : Fin K W θ G H Ws (.ok .nx ρ) E) (S : Stt K θ G H σ ρ Ws) : E.nx σ H := h σ G H Ws Fr.refl S
end
/-- an expression's result, then the rest -/
def RE.seq (r : RE) (k : D → List Sl → RS) : RS := match r with
  | .ok d ρ => k d ρ
  | .ex x ρ => .ex x ρ
  | .st => .st
def R.seq (r : R D) (ρ : List Sl) (k : D → RS) : RS := match r with
  | .ok d => k d
  | .ex x => .ex x ρ
  | .st => .st
def R.seqB (r : R Bool) (ρ : List Sl) (k : Bool → RS) : RS := match r with
  | .ok d => k d
  | .ex x => .ex x ρ
  | .st => .st
@[simp] theorem RE.seq_ok (d : D) (ρ : List Sl) (k : D → List Sl → RS) : (RE.ok d ρ).seq k = k d ρ := rfl
@[simp] theorem RE.seq_st (k : D → List Sl → RS) : RE.st.seq k = .st := rfl
@[simp] theorem R.seq_ok (d : D) (ρ : List Sl) (k : D → RS) : (R.ok d).seq ρ k = k d := rfl
@[simp] theorem R.seq_st (ρ : List Sl) (k : D → RS) : (R.st : R D).seq ρ k = .st := rfl
@[simp] theorem R.seqB_ok (d : Bool) (ρ : List Sl) (k : Bool → RS) : (R.ok d).seqB ρ k = k d := rfl
@[simp] theorem R.seqB_st (ρ : List Sl) (k : Bool → RS) : (R.st : R Bool).seqB ρ k = .st := rfl
section
variable {K : Fg} {W : WX} {σ : L2.St} {θ : Nat → Addr} {G H : Hp} {Ws : List Addr} {E : Ends} {ρ : List Sl}
theorem Fin.ek {r : RE} {k : D → List Sl → RS} (h : Fin K W θ G H Ws (r.seq k) E) : Ek K W σ θ G H Ws r fun v H1 => ∃ d ρ1 G1 W1, Fr G H Ws G1 H1 W1 ∧ Stt K θ G1 H1 σ ρ1 W1 ∧ Rp K G1 v d ∧ Fin K W θ G1 H1 W1 (k d ρ1) E := by
  cases r with
  | ok d ρ' => exact fun v G' H' W' e' s z => ⟨d, ρ', G', W', e', s, z, h.fr e'⟩
  | ex x ρ' => exact fun d G' H' W' e' s z => h d σ G' H' W' e' s z
  | st => exact h
theorem Fin.pk {Z : ZK} {r : R D} {k : D → RS} (S : Stt K θ G H σ ρ Ws) (h : Fin K W θ G H Ws (r.seq ρ k) E) : Pk Z K W σ θ G ρ Ws H r fun v H1 => ∃ d G1, Ext G H G1 H1 ∧ Stt K θ G1 H1 σ ρ Ws ∧ Z K G1 H1 v d ∧ Fin K W θ G1 H1 Ws (k d) E := by
  refine ⟨S, ?_⟩
  cases r with
  | ok d => exact fun v G' H' e' z => ⟨d, G', e', S.ext e', z, h.fr (Fr.of e')⟩
  | ex x => exact fun d G' H' e' z => h d σ G' H' Ws (Fr.of e') (S.ext e') z
  | st => exact h
theorem Fin.tk {r : R Bool} {k : Bool → RS} (S : Stt K θ G H σ ρ Ws) (h : Fin K W θ G H Ws (r.seqB ρ k) E) : Tk K W σ θ G ρ Ws H r fun c H1 => ∃ G1, Ext G H G1 H1 ∧ Stt K θ G1 H1 σ ρ Ws ∧ Fin K W θ G1 H1 Ws (k c) E := by
  refine ⟨S, ?_⟩
  cases r with
  | ok d => exact fun G' H' e' => ⟨G', e', S.ext e', h.fr (Fr.of e')⟩
  | ex x => exact fun d G' H' e' z => h d σ G' H' Ws (Fr.of e') (S.ext e') z
  | st => exact h
end
def RS.then (r : RS) (g : List Sl → RS) : RS := match r with
  | .ok .nx ρ => g ρ
  | r => r
def sSeq (f g : List Sl → RS) (ρ : List Sl) : RS := (f ρ).then g
def sNext (ρ : List Sl) : RS := .ok .nx ρ
def sNever (_ : List Sl) : RS := .st
def sAsg (f : D → List Sl → Option (List Sl)) (g : List Sl → R D) (ρ : List Sl) : RS := (g ρ).seq ρ fun d => match f d ρ with
  | some ρ' => .ok .nx ρ'
  | none => .st
def sAsgE (f : D → List Sl → Option (List Sl)) (g : List Sl → RE) (ρ : List Sl) : RS := (g ρ).seq fun d ρ1 => match f d ρ1 with
  | some ρ' => .ok .nx ρ'
  | none => .st
/-- a new list that the name is to own -/
def sOwn (i : Nat) (g : List Sl → R D) (ρ : List Sl) : RS := (g ρ).seq ρ fun d => match d with
  | .lst ds => if i < ρ.length then .ok .nx (ρ.set i (.own 0 (.lst ds))) else .st
  | _ => .st
def sRet (g : List Sl → R D) (ρ : List Sl) : RS := (g ρ).seq ρ fun d => .ok (.rt d) ρ
def sRetE (g : List Sl → RE) (ρ : List Sl) : RS := (g ρ).seq fun d ρ1 => .ok (.rt d) ρ1
def sRetF (g : List Sl → R D) (ρ : List Sl) : RS := (g ρ).seq ρ fun d => match d with
  | .lst ds => .ok (.rtO (.lst ds)) ρ
  | _ => .st
def sRetN (ρ : List Sl) : RS := .ok (.rt .non) ρ
def sExpr (g : List Sl → R D) (ρ : List Sl) : RS := (g ρ).seq ρ fun _ => .ok .nx ρ
def sExprE (g : List Sl → RE) (ρ : List Sl) : RS := (g ρ).seq fun _ ρ1 => .ok .nx ρ1
def sIf (c : List Sl → R Bool) (f g : List Sl → RS) (ρ : List Sl) : RS := (c ρ).seqB ρ fun b => if b then f ρ else g ρ
/-- slot i's thing is frozen: no Python of its own -/
def frzS (i : Nat) (ρ : List Sl) : List Sl := match ρ[i]? with
  | some (.own 0 o) => if o.can then ρ.set i (.val o.d) else ρ
  | _ => ρ
section
variable {X : Cx} {W : WX} {s : Stmt} {ss : List Stmt} {e c : Expr} {g : List Sl → R D} {ge : List Sl → RE} {f f' : List Sl → RS} {pos : Pos}
theorem dss_nil : DSs X W [] sNext := ⟨PSs.conseq pss_nil fun E σ H ⟨θ, G, ρ, Ws, S, q⟩ => q.nx S⟩
theorem dss_cons (h : DS X W s f) (t : DSs X W ss f') : DSs X W (s :: ss) (sSeq f f') := ⟨PSs.conseq (pss_cons h.run t.run) fun E σ H ⟨θ, G, ρ, Ws, S, q⟩ => ⟨θ, G, ρ, Ws, S, by
  unfold sSeq at q
  cases hf : f ρ with
  | st => rw [hf] at q; exact q
  | ex x ρ' => rw [hf] at q; exact q
  | ok fl ρ' =>
    rw [hf] at q
    cases fl with
    | nx => exact fun σ' G' H' W' e' S' => ⟨θ, G', ρ', W', S', Fin.fr (show Fin X.K W θ G H Ws (f' ρ') E from q) e'⟩
    | rt d => exact q
    | rtO o => exact q
    | bk => exact q
    | ct => exact q⟩⟩
theorem dss_one (h : DS X W s f) : DSs X W [s] f := ⟨pss_one h.run⟩
theorem ds_never : DS X W s sNever := ⟨PS.conseq ps_never fun E σ H ⟨θ, G, ρ, Ws, S, q⟩ => q⟩
theorem dss_never : DSs X W ss sNever := ⟨PSs.conseq pss_never fun E σ H ⟨θ, G, ρ, Ws, S, q⟩ => q⟩
theorem ds_pass : DS X W (.Pass pos) sNext := ⟨PS.conseq ps_pass fun E σ H ⟨θ, G, ρ, Ws, S, q⟩ => q.nx S⟩
theorem ds_brk : DS X W (.Break pos) (fun ρ => .ok .bk ρ) := ⟨PS.conseq ps_break fun E σ H ⟨θ, G, ρ, Ws, S, q⟩ => q σ G H Ws Fr.refl S⟩
theorem ds_cnt : DS X W (.Continue pos) (fun ρ => .ok .ct ρ) := ⟨PS.conseq ps_continue fun E σ H ⟨θ, G, ρ, Ws, S, q⟩ => q σ G H Ws Fr.refl S⟩
theorem ds_asg' {gg : TG} {vs : List Nat} {tf : D → List Sl → Option (List Sl)} (hg : TgOk X.K Rp gg vs tf) (hp : PS X s (tAsg (tZ Zc X.K W g) gg)) : DS X W s (sAsg tf g) :=
  ⟨PS.conseq hp fun E σ H ⟨θ, G, ρ, Ws, S, q⟩ => ⟨θ, G, ρ, Ws, (Fin.pk (Z := Zc) S q).imp fun v H1 ⟨d, G1, e1, S1, z, q1⟩ => by
    cases hf : tf d ρ with
    | none => rw [hf] at q1; exact q1.elim
    | some ρ' =>
      rw [hf] at q1
      exact hg S1 z hf fun σ' W' S' sb _ => q1 σ' G1 H1 W' (Fr.refl.less fun a ha => sb.subset ha) S'⟩⟩
theorem ds_asgE {gg : TG} {vs : List Nat} {tf : D → List Sl → Option (List Sl)} (hg : TgOk X.K Rp gg vs tf) (he : DE X W e ge) (hps : ∀ te, PE X e te → PS X s (tAsg te gg)) : DS X W s (sAsgE tf ge) :=
  ⟨PS.conseq (hps _ he.run) fun E σ H ⟨θ, G, ρ, Ws, S, q⟩ => ⟨θ, G, ρ, Ws, S, (Fin.ek q).imp fun v H1 ⟨d, ρ1, G1, W1, e1, S1, z, q1⟩ => by
    cases hf : tf d ρ1 with
    | none => rw [hf] at q1; exact q1.elim
    | some ρ' =>
      rw [hf] at q1
      exact hg S1 z hf fun σ' W' S' sb _ => q1 σ' G1 H1 W' (Fr.refl.less fun a ha => sb.subset ha) S'⟩⟩
theorem ds_own' {i : Nat} (hp : PS X s (tAsg (tF X.K W g) (gName i))) : DS X W s (sOwn i g) :=
  ⟨PS.conseq hp fun E σ H ⟨θ, G, ρ, Ws, S, q⟩ => ⟨θ, G, ρ, Ws, S, by
    unfold sOwn at q
    cases hv : g ρ with
    | st => rw [hv] at q; exact q
    | ex x => rw [hv] at q; exact fun d G' H' e' z => q d σ G' H' Ws (Fr.of e') (S.ext e') z
    | ok d =>
      rw [hv] at q
      cases d with
      | lst ds =>
        have q : Fin X.K W θ G H Ws (if i < ρ.length then .ok .nx (ρ.set i (.own 0 (.lst ds))) else .st) E := q
        split at q
        · rename_i hi
          intro p vs G' H' e' hp gp hp' r
          obtain ⟨W', S', mem⟩ := (S.ext e').putOwn (i := i) (v := .ref p) (o := .lst ds) (fp := [p]) hi (.lst hp' r) (by simp) (fun a ha z => by
            rw [List.mem_singleton.mp ha] at z
            obtain ⟨u, hu⟩ := S.sts.in_ p z
            rw [hp] at hu; cases hu) (fun a ha => by rw [List.mem_singleton.mp ha]; exact gp)
          refine q _ G' H' W' ⟨e'.g, fun a o h _ => e'.h a o h, fun a ha => ?_, fun a o h => (e'.nw a o h).elim .inl fun z => .inr (.inr z), al_same e'.h⟩ S'
          rcases mem a ha with z | z
          · rw [List.mem_singleton.mp z]; exact .inr hp
          · exact .inl z
        · exact q.elim
      | _ => exact q⟩⟩
theorem ds_asg {gg : TG} {vs : List Nat} {tf : D → List Sl → Option (List Sl)} (hg : TgOk X.K Rp gg vs tf) (he : DP X W e g) (hps : ∀ te, PE X e te → PS X s (tAsg te gg)) : DS X W s (sAsg tf g) := ds_asg' hg (hps _ he.run)
theorem ds_own {i : Nat} (he : DF X W e g) (hps : ∀ te, PE X e te → PS X s (tAsg te (gName i))) : DS X W s (sOwn i g) := ds_own' (hps _ he.run)
theorem PS.dp {gg : TG} (h : PS X s (tAsg (tF X.K W g) gg)) : PS X s (tAsg (tZ Zc X.K W (p1 isL g)) gg) := PS.conseq h fun E σ H q => tF_of q
theorem ds_ret (he : DP X W e g) : DS X W (.Return (some e) pos) (sRet g) := ⟨PS.conseq (ps_ret he.run) fun E σ H ⟨θ, G, ρ, Ws, S, q⟩ => ⟨θ, G, ρ, Ws, (Fin.pk (Z := Zc) S q).imp fun v H1 ⟨d, G1, e1, S1, z, q1⟩ => q1 v σ G1 H1 Ws Fr.refl S1 z⟩⟩
theorem ds_retE (he : DE X W e ge) : DS X W (.Return (some e) pos) (sRetE ge) := ⟨PS.conseq (ps_ret he.run) fun E σ H ⟨θ, G, ρ, Ws, S, q⟩ => ⟨θ, G, ρ, Ws, S, (Fin.ek q).imp fun v H1 ⟨d, ρ1, G1, W1, e1, S1, z, q1⟩ => q1 v σ G1 H1 W1 Fr.refl S1 z⟩⟩
theorem ds_retF (he : DF X W e g) : DS X W (.Return (some e) pos) (sRetF g) := ⟨PS.conseq (ps_ret he.run) fun E σ H ⟨θ, G, ρ, Ws, S, q⟩ => ⟨θ, G, ρ, Ws, S, by
    unfold sRetF at q
    cases hv : g ρ with
    | st => rw [hv] at q; exact q
    | ex x => rw [hv] at q; exact fun d G' H' e' z => q d σ G' H' Ws (Fr.of e') (S.ext e') z
    | ok d =>
      rw [hv] at q
      cases d with
      | lst ds =>
        intro p vs G' H' e' hp gp hp' r
        have nW : p ∉ Ws := fun z => by
          obtain ⟨u, hu⟩ := S.sts.in_ p z
          rw [hp] at hu; cases hu
        refine q (.ref p) [p] σ G' H' Ws ⟨e'.g, fun a o h _ => e'.h a o h, fun a ha => ?_, fun a o h => (e'.nw a o h).elim .inl fun z => .inr (.inr z), al_same e'.h⟩ (S.ext e') (.lst hp' r) (by simp) (fun a ha => by rw [List.mem_singleton.mp ha]; exact nW) (fun a ha => by rw [List.mem_singleton.mp ha]; exact gp)
        rcases List.mem_append.mp ha with z | z
        · rw [List.mem_singleton.mp z]; exact .inr hp
        · exact .inl z
      | _ => exact q⟩⟩
theorem ds_retN : DS X W (.Return none pos) sRetN := ⟨PS.conseq ps_retN fun E σ H ⟨θ, G, ρ, Ws, S, q⟩ => q .non σ G H Ws Fr.refl S .non⟩
theorem ds_expr (he : DP X W e g) (hs : swapsWith e none pos.line X.env = pure false := by rfl) : DS X W (.Expr e pos) (sExpr g) := ⟨PS.conseq (ps_expr he.run hs) fun E σ H ⟨θ, G, ρ, Ws, S, q⟩ => ⟨θ, G, ρ, Ws, (Fin.pk (Z := Zc) S q).imp fun v H1 ⟨d, G1, e1, S1, z, q1⟩ => q1.nx S1⟩⟩
theorem ds_exprE (he : DE X W e ge) (hs : swapsWith e none pos.line X.env = pure false := by rfl) : DS X W (.Expr e pos) (sExprE ge) := ⟨PS.conseq (ps_expr he.run hs) fun E σ H ⟨θ, G, ρ, Ws, S, q⟩ => ⟨θ, G, ρ, Ws, S, (Fin.ek q).imp fun v H1 ⟨d, ρ1, G1, W1, e1, S1, z, q1⟩ => q1.nx S1⟩⟩
theorem ds_if {t : List Sl → R Bool} {a b : List Stmt} (hc : DT X W c t) (ha : DSs X W a f) (hb : DSs X W b f') : DS X W (.If c a b pos) (sIf t f f') :=
  ⟨PS.conseq (ps_if hc.run ha.run hb.run) fun E σ H ⟨θ, G, ρ, Ws, S, q⟩ => ⟨θ, G, ρ, Ws, (Fin.tk S q).imp fun c H1 ⟨G1, e1, S1, q1⟩ => by
    cases c with
    | true => exact iteT ⟨θ, G1, ρ, Ws, S1, q1⟩
    | false => exact iteF ⟨θ, G1, ρ, Ws, S1, q1⟩⟩⟩
theorem Stt.frzS {K : Fg} {θ : Nat → Addr} {G H : Hp} {σ : L2.St} {ρ : List Sl} {Ws : List Addr} (S : Stt K θ G H σ ρ Ws) (i : Nat) : ∃ G' W', Fr G H Ws G' H W' ∧ Stt K θ G' H σ (frzS i ρ) W' := by
  unfold DL.frzS
  split
  · rename_i o e
    split
    · rename_i hc
      obtain ⟨v, fp, A, B, h1, h2, h3, h4, h5⟩ := S.sts.focus e
      subst h4
      obtain ⟨n1, n2, n3⟩ := nodup_mid S.nd
      have g0 : ∀ a ∈ fp, G a = none := fun a ha => S.out a (by simp [ha])
      have g := frz_g (G := G) (H := H) g0
      refine ⟨DL.frz G H fp, A ++ B, ⟨g, fun a o h _ => h, fun a ha => .inl (by rcases List.mem_append.mp ha with z | z <;> simp [z]), fun a o h => ?_, fun _ h => h⟩, frz_s S.same, (h5 _ H g fun a _ u hu => hu).2 _ (h2.frz hc g0), n2, fun a ha => ?_⟩
      · unfold DL.frz at h
        by_cases ha : a ∈ fp
        · exact .inr (.inl (by simp [ha]))
        · rw [if_neg ha] at h; exact .inl h
      · unfold DL.frz
        rw [if_neg fun z => n3 a z ha]
        exact S.out a (by rcases List.mem_append.mp ha with z | z <;> simp [z])
    · exact ⟨G, Ws, Fr.refl, S⟩
  · exact ⟨G, Ws, Fr.refl, S⟩
/-- a step ahead: slot i's thing is frozen -/
theorem ds_frz (i : Nat) (h : DS X W s f) : DS X W s (fun ρ => f (frzS i ρ)) := ⟨PS.conseq h.run fun E σ H ⟨θ, G, ρ, Ws, S, q⟩ => by
  obtain ⟨G', W', fr, S'⟩ := S.frzS i
  exact ⟨θ, G', _, W', S', q.fr fr⟩⟩

/-! ### loops -/
def forGo (tf : D → List Sl → Option (List Sl)) (body : List Sl → RS) : List D → List Sl → RS
  | [], ρ => .ok .nx ρ
  | d :: ds, ρ => match tf d ρ with
    | none => .st
    | some ρ1 => match body ρ1 with
      | .ok .nx ρ2 => forGo tf body ds ρ2
      | .ok .ct ρ2 => forGo tf body ds ρ2
      | .ok .bk ρ2 => .ok .nx ρ2
      | r => r
def sFor (src : List Sl → R (List D)) (tf : D → List Sl → Option (List Sl)) (body : List Sl → RS) (ρ : List Sl) : RS := match src ρ with
  | .ok items => forGo tf body items ρ
  | .ex x => .ex x ρ
  | .st => .st
def whileGo (c : List Sl → R Bool) (body : List Sl → RS) : Nat → List Sl → RS
  | 0, _ => .st
  | n + 1, ρ => (c ρ).seqB ρ fun b => if b then (match body ρ with
      | .ok .nx ρ2 => whileGo c body n ρ2
      | .ok .ct ρ2 => whileGo c body n ρ2
      | .ok .bk ρ2 => .ok .nx ρ2
      | r => r) else .ok .nx ρ
theorem for_turns {K : Fg} {Pz : PZ} {gg : TG} {vs : List Nat} {tf : D → List Sl → Option (List Sl)} (hg : TgOk K Pz gg vs tf) {J : It} {items : List D} {θ : Nat → Addr} {G H : Hp} {σ : L2.St} {ρ : List Sl} {Ws : List Addr} (S : Stt K θ G H σ ρ Ws) (hJ : GoesD K Pz J G items) {E : Ends}
    (q : Fin K W θ G H Ws (forGo tf f items ρ) E) : ∃ Wi : Nat → Nat → L2.St → Hp → Prop, (∃ m, Wi 0 m σ H) ∧ ∀ i m σ H, Wi i m σ H →
      (J.stop i H ∧ E.nx σ H) ∨ (J.go i H ∧ ∃ N : L2.St → Hp → Prop, (∀ σ' H', N σ' H' → ∃ m', m' < m ∧ Wi (i + 1) m' σ' H') ∧ ∀ x H', J.yld i H x H' → gg x σ H' fun σ2 H2 => tSt K W f { E with nx := N, ct := N, bk := E.nx } σ2 H2) := by
  let Wi : Nat → Nat → L2.St → Hp → Prop := fun i m σ1 H1 => m = items.length - i ∧ i ≤ items.length ∧ ∃ G1 ρ1 W1, Fr G H Ws G1 H1 W1 ∧ Stt K θ G1 H1 σ1 ρ1 W1 ∧ Fin K W θ G1 H1 W1 (forGo tf f (items.drop i) ρ1) E
  refine ⟨Wi, ⟨items.length, rfl, Nat.zero_le _, G, ρ, Ws, Fr.refl, S, q⟩, ?_⟩
  rintro i m σ1 H1 ⟨rfl, hi, G1, ρ1, W1, fr, S1, q1⟩
  by_cases hlt : i < items.length
  · refine .inr ?_
    obtain ⟨d, hd⟩ : ∃ d, items[i]? = some d := ⟨_, List.getElem?_eq_getElem hlt⟩
    obtain ⟨go, yl⟩ := (hJ i G1 H1 fr.g S1.same).1 d hd
    have hdr : items.drop i = d :: items.drop (i + 1) := by
      rw [List.drop_eq_getElem_cons hlt]
      rw [List.getElem?_eq_getElem hlt] at hd
      cases hd; rfl
    rw [hdr] at q1
    unfold forGo at q1
    refine ⟨go, Wi (i + 1) (items.length - (i + 1)), fun σ' H' w' => ⟨_, by omega, w'⟩, fun x H' y => ?_⟩
    obtain ⟨G2, e2, rx⟩ := yl x H' y
    cases hf : tf d ρ1 with
    | none => rw [hf] at q1; exact q1.elim
    | some ρ2 =>
      rw [hf] at q1
      dsimp only at q1
      refine hg (S1.ext e2) rx hf fun σ2 W2 S2 sb2 _ => ⟨θ, G2, ρ2, W2, S2, ?_⟩
      have f2 : Fr G1 H1 W1 G2 H' W2 := (Fr.of e2).less fun a ha => sb2.subset ha
      have q2 := q1.fr f2
      cases hb : f ρ2 with
      | st => rw [hb] at q2; exact q2
      | ex x ρ' => rw [hb] at q2; exact q2
      | ok fl ρ' =>
        rw [hb] at q2
        cases fl with
        | nx => exact fun σ' G' H'' W' e' S' => ⟨rfl, hlt, G', ρ', W', fr.trans (f2.trans e'), S', Fin.fr (show Fin K W θ G2 H' W2 (forGo tf f (items.drop (i + 1)) ρ') E from q2) e'⟩
        | ct => exact fun σ' G' H'' W' e' S' => ⟨rfl, hlt, G', ρ', W', fr.trans (f2.trans e'), S', Fin.fr (show Fin K W θ G2 H' W2 (forGo tf f (items.drop (i + 1)) ρ') E from q2) e'⟩
        | bk => exact q2
        | rt d => exact q2
        | rtO o => exact q2
  · have e : i = items.length := by omega
    subst e
    rw [List.drop_length] at q1
    exact .inl ⟨(hJ _ G1 H1 fr.g S1.same).2 (Nat.le_refl _), q1.nx S1⟩
theorem ds_for {tg iter : Expr} {body : List Stmt} {src : List Sl → R (List D)} {gg : TG} {vs : List Nat} {tf : D → List Sl → Option (List Sl)} (hp : PassesOwn (model X.prog X.w) X.A X.env X.xe) (hc : X.calm = true) {Pz : PZ} (hi : DI X Pz W tg iter src) (hpg : PG X tg gg) (hg : TgOk X.K Pz gg vs tf)
    (hb : DSs X W body f) (hs : ∀ x, foldedSetIterable iter X.env x = pure x := by intro _; rfl) : DS X W (.For tg iter body [] pos) (sFor src tf f) :=
  ⟨PS.conseq (ps_for hp hc hi.run hpg hb.run hs) fun E σ H ⟨θ, G, ρ, Ws, S, q⟩ => ⟨θ, G, ρ, Ws, S, by
    unfold sFor at q
    cases hv : src ρ with
    | st => rw [hv] at q; exact q
    | ex x => rw [hv] at q; exact fun d G' H' e' z => q d σ G' H' Ws (Fr.of e') (S.ext e') z
    | ok items =>
      rw [hv] at q
      exact fun J G' H' e' hJ => for_turns hg (S.ext e') hJ (Fin.fr q (Fr.of e'))⟩⟩
theorem ds_while {n : Nat} {body : List Stmt} {t : List Sl → R Bool} (hp : PassesOwn (model X.prog X.w) X.A X.env X.xe) (hc : DT X W c t) (hb : DSs X W body f) : DS X W (.While c body [] pos) (whileGo t f n) :=
  ⟨PS.conseq (ps_while hp hc.run hb.run) fun E σ H ⟨θ, G, ρ, Ws, S, q⟩ => by
    let Wi : Nat → L2.St → Hp → Prop := fun m σ1 H1 => ∃ G1 ρ1 W1, Fr G H Ws G1 H1 W1 ∧ Stt X.K θ G1 H1 σ1 ρ1 W1 ∧ Fin X.K W θ G1 H1 W1 (whileGo t f m ρ1) E
    refine ⟨Wi, ⟨n, G, ρ, Ws, Fr.refl, S, q⟩, ?_⟩
    rintro m σ1 H1 ⟨G1, ρ1, W1, fr, S1, q1⟩
    cases m with
    | zero => exact q1.elim
    | succ m =>
      unfold whileGo at q1
      refine ⟨θ, G1, ρ1, W1, (Fin.tk S1 q1).imp fun b H2 ⟨G2, e2, S2, q2⟩ => ?_⟩
      cases b with
      | false => exact iteF (q2.nx S2)
      | true =>
        refine iteT ⟨Wi m, fun σ' H' w => ⟨m, Nat.lt_succ_self _, w⟩, θ, G2, ρ1, W1, S2, ?_⟩
        have q2 : Fin X.K W θ G2 H2 W1 (match f ρ1 with
          | .ok .nx ρ2 => whileGo t f m ρ2
          | .ok .ct ρ2 => whileGo t f m ρ2
          | .ok .bk ρ2 => .ok .nx ρ2
          | r => r) E := q2
        have f2 : Fr G H Ws G2 H2 W1 := fr.trans (Fr.of e2)
        cases hb' : f ρ1 with
        | st => rw [hb'] at q2; exact q2
        | ex x ρ' => rw [hb'] at q2; exact q2
        | ok fl ρ' =>
          rw [hb'] at q2
          cases fl with
          | nx => exact fun σ' G' H'' W' e' S' => ⟨G', ρ', W', f2.trans e', S', Fin.fr (show Fin X.K W θ G2 H2 W1 (whileGo t f m ρ') E from q2) e'⟩
          | ct => exact fun σ' G' H'' W' e' S' => ⟨G', ρ', W', f2.trans e', S', Fin.fr (show Fin X.K W θ G2 H2 W1 (whileGo t f m ρ') E from q2) e'⟩
          | bk => exact q2
          | rt d => exact q2
          | rtO o => exact q2⟩
end
end DL

set_option Elab.async false
set_option linter.all false
set_option maxRecDepth 100000
set_option maxHeartbeats 2000000
/-! The data layer, seventh part: defs and their calls; what is done to owned things. -/
namespace DL
open PySem PySem.Spec PyProof.Rows L2

/-! ### what a def promises -/
def spD (K : Fg) (n : Nat) (F : List Sl → RS) : Sp := fun vs H Q E => vs.length = n ∧ ∃ θ G ρ W, Stt K θ G H (vs.map some) ρ W ∧ match F ρ with
  | .ok (.rt d) ρ' => ∀ v G' H' W', Fr G H W G' H' W' → Stt K θ G' H' (vs.map some) ρ' W' → Rp K G' v d → Q v H'
  | .ok (.rtO o) ρ' => ∀ v fp G' H' W', Fr G H W G' H' (fp ++ W') → Stt K θ G' H' (vs.map some) ρ' W' → Own K G' H' v o fp → fp.Nodup → (∀ a ∈ fp, a ∉ W') → (∀ a ∈ fp, G' a = none) → Q v H'
  | .ex x ρ' => ∀ d G' H' W', Fr G H W G' H' W' → Stt K θ G' H' (vs.map some) ρ' W' → XkOk K G' H' x d → E (.ref x.cls) d H'
  | _ => False
/-- the parameters behind a call -/
def back : List Sl → List Sl → List Sl
  | [], _ => []
  | .val d :: r, _ :: s => .val d :: back r s
  | .own t _ :: r, .own t' o' :: s => (if t = t' ∧ t ≠ 0 then .own t o' else .un) :: back r s
  | _ :: r, _ :: s => .un :: back r s
  | _ :: r, [] => .un :: back r []
def runF (nl : Nat) (f : List Sl → RS) (ρ : List Sl) : RS := match f (ρ ++ List.replicate nl .un) with
  | .ok .nx ρ' => .ok (.rt .non) (back ρ ρ')
  | .ok (.rt d) ρ' => .ok (.rt d) (back ρ ρ')
  | .ok (.rtO o) ρ' => .ok (.rtO o) (back ρ ρ')
  | .ex x ρ' => .ex x (back ρ ρ')
  | _ => .st
section
variable {K : Fg} {θ : Nat → Addr}
theorem Sts.locals {G H : Hp} {σ : List (Option V)} {ρ : List Sl} {W : List Addr} (h : Sts K θ G H σ ρ W) : ∀ n : Nat, Sts K θ G H (σ ++ List.replicate n none) (ρ ++ List.replicate n .un) W := by
  have base : ∀ n : Nat, Sts K θ G H (List.replicate n none) (List.replicate n .un) [] := by
    intro n
    induction n with
    | zero => exact .nil
    | succ n ih => exact .un ih
  intro n
  induction h with
  | nil => exact base n
  | un _ ih => exact .un ih
  | val r _ ih => exact .val r ih
  | own r t _ ih => exact .own r t ih
theorem back_ok {G0 H0 G H : Hp} (g : Same G0 G) {σ0 : List (Option V)} {ρ : List Sl} {W0 : List Addr} (h0 : Sts K θ G0 H0 σ0 ρ W0) : ∀ {σ : List (Option V)} {ρ' : List Sl} {W : List Addr}, Sts K θ G H σ ρ' W → ∃ W', Sts K θ G H σ0 (back ρ ρ') W' ∧ W'.Sublist W := by
  have short : ∀ (σ : List (Option V)) (ρ : List Sl), σ.length = ρ.length → Sts K θ G H σ (back ρ []) [] := by
    intro σ
    induction σ with
    | nil => intro ρ hl; cases ρ with
      | nil => exact .nil
      | cons _ _ => cases hl
    | cons v σ ih => intro ρ hl; cases ρ with
      | nil => cases hl
      | cons s ρ =>
        have e : back (s :: ρ) [] = .un :: back ρ [] := by cases s <;> rfl
        rw [e]
        exact .un (ih ρ (by simpa using hl))
  induction h0 with
  | nil => intro σ ρ' W h; exact ⟨[], .nil, by simp⟩
  | @un v σ0 ρ W0 h0 ih =>
    intro σ ρ' W h
    cases h with
    | nil => exact ⟨[], short _ _ (by simpa using h0.len), by simp⟩
    | un h => obtain ⟨W', q, sb⟩ := ih h; exact ⟨W', .un q, sb⟩
    | val r h => obtain ⟨W', q, sb⟩ := ih h; exact ⟨W', .un q, sb⟩
    | own r t h => obtain ⟨W', q, sb⟩ := ih h; exact ⟨W', .un q, sb.trans (List.sublist_append_right _ _)⟩
  | @val v d σ0 ρ W0 r0 h0 ih =>
    intro σ ρ' W h
    cases h with
    | nil => exact ⟨[], short _ _ (by simpa using h0.len), by simp⟩
    | un h => obtain ⟨W', q, sb⟩ := ih h; exact ⟨W', .val (r0.mono g) q, sb⟩
    | val r h => obtain ⟨W', q, sb⟩ := ih h; exact ⟨W', .val (r0.mono g) q, sb⟩
    | own r t h => obtain ⟨W', q, sb⟩ := ih h; exact ⟨W', .val (r0.mono g) q, sb.trans (List.sublist_append_right _ _)⟩
  | @own v t o fp σ0 ρ W0 r0 t0 h0 ih =>
    intro σ ρ' W h
    cases h with
    | nil => exact ⟨[], short _ _ (by simpa using h0.len), by simp⟩
    | un h => obtain ⟨W', q, sb⟩ := ih h; exact ⟨W', .un q, sb⟩
    | val r h => obtain ⟨W', q, sb⟩ := ih h; exact ⟨W', .un q, sb⟩
    | @own v' t' o' fp' σ ρ' W r tt h =>
      obtain ⟨W', q, sb⟩ := ih h
      unfold back
      split
      · rename_i e
        obtain ⟨e1, e2⟩ := e
        subst e1
        have ev : v = v' := by
          rcases t0 with z | z
          · exact absurd z e2
          · rcases tt with y | y
            · exact absurd y e2
            · rw [z, y]
        subst ev
        exact ⟨_, .own r tt q, (List.Sublist.refl _).append sb⟩
      · exact ⟨W', .un q, sb.trans (List.sublist_append_right _ _)⟩
theorem Stt.back {G0 H0 G H : Hp} (g : Same G0 G) {σ0 : List (Option V)} {ρ : List Sl} {W0 : List Addr} (h0 : Sts K θ G0 H0 σ0 ρ W0) {σ : List (Option V)} {ρ' : List Sl} {W : List Addr} (S : Stt K θ G H σ ρ' W) : ∃ W', Stt K θ G H σ0 (back ρ ρ') W' ∧ W'.Sublist W := by
  obtain ⟨W', q, sb⟩ := back_ok g h0 S.sts
  exact ⟨W', S.sub q sb, sb⟩
end

/-- x(..), a def of the module, may be called here -/
def Cal (X : Cx) (W : WX) (x : Str) (ps : List Str) (F : List Sl → RS) : Prop := ∀ ⦃e : Expr⦄ ⦃es : List Expr⦄ ⦃t : TA⦄ ⦃p pos : Pos⦄, PA X (e :: es) t → starEach (e :: es) X.env = (false, eval e X.env) :: starEach es X.env → (backTo pos (starEach es X.env)).any (·.1) = false →
  PE X (.Call (.Name x p) (e :: es) [] pos) (tCallS (spD X.K ps.length F) (WE W) t)
/-- a def of the module by its name -/
structure FnD (P : Program) (w : World) (K : Fg) (mg : Str → Option Value) (base : Heap) (k : Nat) (x : Str) (ps : List Str) (F : List Sl → RS) : Prop where
  ex : ∃ f fd, FnOk P w K mg base (L2.CX P w) k f fd ps (spD K ps.length F) ∧ mg x = some (.ref f) ∧ PySem.W.keepIn K (.ref f) = true ∧ Binds K fd ps []
section
variable {P : Program} {w : World} {K : Fg} {mg : Str → Option Value} {base : Heap}
theorem FnD.mono {j k : Nat} {x : Str} {ps : List Str} {F : List Sl → RS} (h : FnD P w K mg base j x ps F) (hk : j ≤ k) : FnD P w K mg base k x ps F :=
  let ⟨f, fd, a, b, c, d⟩ := h.ex; ⟨f, fd, a.mono hk, b, c, d⟩
theorem FnD.cal {X : Cx} {W : WX} {k : Nat} {x : Str} {ps : List Str} {F : List Sl → RS} (fn : FnD X.prog X.w X.K X.mg X.base k x ps F) (hr : Room k X.A) (hg : Gl X x) (tk : Takes X W) (hdb : (x == ("__debug__" : Str)) = false := by decide) : Cal X W x ps F := by
  obtain ⟨f, fd, hF, hm, hk, hb⟩ := fn.ex
  exact fun _ _ _ _ _ ha he hpl => pe_callS hF hr hg hm hk hb (fun σ => passAt tk σ) ha hdb he hpl
theorem spD_start {K : Fg} {N ps : List Str} {m : List Sl → RS} {vs : List V} {H : Hp} {Q : VK} {E : XK} (q0 : spD K ps.length (runF (N.length - ps.length) m) vs H Q E) : tSt K (fun cls d _ H => E cls d H) m { nx := fun _ H' => Q .non H', rt := Q } (L2.start N vs) H := by
  obtain ⟨hl, θ, G, ρ, W, S0, q⟩ := q0
  refine ⟨θ, G, ρ ++ List.replicate (N.length - vs.length) Sl.un, W, ⟨S0.same, S0.sts.locals (N.length - vs.length), S0.nd, S0.out⟩, ?_⟩
  rw [hl]
  unfold runF at q
  cases hm : m (ρ ++ List.replicate (N.length - ps.length) .un) with
  | st => rw [hm] at q; exact q
  | ex x ρ' =>
    rw [hm] at q
    intro d σ' G' H' W' fr S' xk
    obtain ⟨W2, S2, sb⟩ := Stt.back fr.g S0.sts S'
    exact q d G' H' W2 (fr.less fun a ha => sb.subset ha) S2 xk
  | ok fl ρ' =>
    rw [hm] at q
    cases fl with
    | nx =>
      intro σ' G' H' W' fr S'
      obtain ⟨W2, S2, sb⟩ := Stt.back fr.g S0.sts S'
      exact q .non G' H' W2 (fr.less fun a ha => sb.subset ha) S2 .non
    | rt d =>
      intro v σ' G' H' W' fr S' r
      obtain ⟨W2, S2, sb⟩ := Stt.back fr.g S0.sts S'
      exact q v G' H' W2 (fr.less fun a ha => sb.subset ha) S2 r
    | rtO o =>
      intro v fp σ' G' H' W' fr S' r n1 n2 n3
      obtain ⟨W2, S2, sb⟩ := Stt.back fr.g S0.sts S'
      refine q v fp G' H' W2 (fr.less fun a ha => ?_) S2 r n1 (fun a ha z => n2 a ha (sb.subset z)) n3
      rcases List.mem_append.mp ha with z | z
      · exact List.mem_append_left _ z
      · exact List.mem_append_right _ (sb.subset z)
    | bk => exact q.elim
    | ct => exact q.elim
/-- the promise by a reading of the body -/
theorem FnD.fnok {x qual : Str} {params : Arguments} {body : List Stmt} {scope : Scope} {dvs : List V} {kws : List (Str × V)} {f : Addr} {fd : FuncData} {N ps : List Str} {k : Nat} {m : List Sl → RS} (F : FunD K x qual params body scope dvs kws f fd) (S : FnScope N ps scope)
    (hN : ps.length ≤ N.length)
    (h : ∀ (cdv : Value) (A : Around) (outer : List Env) (s : Shared) (H : Hp) (E : XK), Room k (A.deeper (envOfC qual scope s.heap.objs.size f cdv)) → DSs (cxOf (L2.CX P w) P w K mg base N qual scope f cdv A outer s H E) (fun cls d _ H => E cls d H) body m) :
    FnOk P w K mg base (L2.CX P w) (k + 1) f fd ps (spD K ps.length (runF (N.length - ps.length) m)) := by
  exact F.ok S (fun vs H Q E h => h.1) fun cdv A outer s H vs Q E hr q => ⟨_, (h cdv A outer s H E hr).run, spD_start q⟩
end

/-! ### calls whose arguments are data -/
def callV (F : List Sl → RS) (ds : List D) : R D := match F (ds.map .val) with
  | .ok (.rt d) _ => .ok d
  | .ex x _ => .ex x
  | _ => .st
/-- .. of a def that hands back a list of its own -/
def callL (F : List Sl → RS) (ds : List D) : R D := match F (ds.map .val) with
  | .ok (.rtO (.lst xs)) _ => .ok (.lst xs)
  | .ex x _ => .ex x
  | _ => .st
theorem Fr.ext {G H G' H' : Hp} {W' : List Addr} (f : Fr G H [] G' H' W') (s : Same G' H') : Ext G H G' H' := ⟨f.g, fun a o h => f.k a o h (by simp), s, fun a o h => by
  rcases f.n a o h with z | z | z
  · exact .inl z
  · cases z
  · exact .inr z⟩
theorem Sts.vals {K : Fg} {θ : Nat → Addr} {G H : Hp} {vs : List V} {ds : List D} (r : RpA K G vs ds) : Sts K θ G H (vs.map some) (ds.map Sl.val) [] := by
  induction ds generalizing vs with
  | nil => cases r; exact .nil
  | cons d ds ih => cases r with
    | cons r t => exact .val r (ih t)
theorem Stt.vals {K : Fg} {θ : Nat → Addr} {G H : Hp} {vs : List V} {ds : List D} (s : Same G H) (r : RpA K G vs ds) : Stt K θ G H (vs.map some) (ds.map Sl.val) [] := ⟨s, Sts.vals r, by simp, by simp⟩
/-- by values -/
theorem call_pk {Z : ZK} [ZOk Z] {K : Fg} {W : WX} {σ : L2.St} {θ : Nat → Addr} {G H : Hp} {ρ : List Sl} {Ws : List Addr} {F : List Sl → RS} {ds : List D} {vs : List V} {n : Nat} {Q : VK} (hl : ds.length = n) (r : RpA K G vs ds) (q : Pk Z K W σ θ G ρ Ws H (callV F ds) Q) :
    spD K n F vs H Q (WE W σ) := by
  refine ⟨by rw [r.length, hl], θ, G, ds.map .val, [], Stt.vals q.same r, ?_⟩
  have q2 := q.2
  unfold callV at q2
  cases hF : F (ds.map .val) with
  | st => rw [hF] at q2; exact q2
  | ex x ρ' => rw [hF] at q2; exact fun d G' H' W' fr S xk => q2 d G' H' (fr.ext S.same) xk
  | ok fl ρ' =>
    rw [hF] at q2
    cases fl with
    | rt d => exact fun v G' H' W' fr S z => q2 v G' H' (fr.ext S.same) (ZOk.of S.same z)
    | rtO o => exact q2.elim
    | nx => exact q2
    | bk => exact q2
    | ct => exact q2
theorem callL_fk {K : Fg} {W : WX} {σ : L2.St} {θ : Nat → Addr} {G H : Hp} {ρ : List Sl} {Ws : List Addr} {F : List Sl → RS} {ds : List D} {vs : List V} {n : Nat} {Q : VK} (hl : ds.length = n) (r : RpA K G vs ds) (q : Fk K W σ θ G ρ Ws H (callL F ds) Q) :
    spD K n F vs H Q (WE W σ) := by
  refine ⟨by rw [r.length, hl], θ, G, ds.map .val, [], Stt.vals q.1.same r, ?_⟩
  have q2 := q.2
  unfold callL at q2
  cases hF : F (ds.map .val) with
  | st => rw [hF] at q2; exact q2
  | ex x ρ' => rw [hF] at q2; exact fun d G' H' W' fr S xk => q2 d G' H' (fr.ext S.same) xk
  | ok fl ρ' =>
    rw [hF] at q2
    cases fl with
    | rtO o =>
      cases o with
      | lst xs =>
        intro v fp G' H' W' fr S z n1 n2 n3
        cases z with
        | lst h1 h2 =>
          have e := fr.ext S.same
          refine q2 _ _ G' H' e ?_ (n3 _ (by simp)) h1 h2
          rcases fr.w _ (List.mem_append_left _ (List.mem_singleton.mpr rfl)) with z | z
          · cases z
          · exact z
      | _ => exact q2.elim
    | rt d => exact q2.elim
    | nx => exact q2
    | bk => exact q2
    | ct => exact q2
def lenIs (n : Nat) (ds : List D) : Bool := decide (ds.length = n)
section
variable {X : Cx} {W : WX} {k : Nat} {x : Str} {ps : List Str} {F : List Sl → RS} {e : Expr} {es : List Expr} {p pos : Pos} {ga : List Sl → R (List D)}
theorem dp_call (cl : Cal X W x ps F) (ha : DA X W (e :: es) ga) (hl : ∀ ρ ds, ga ρ = .ok ds → ds.length = ps.length)
    (he : starEach (e :: es) X.env = (false, eval e X.env) :: starEach es X.env := by rfl) (hpl : (backTo pos (starEach es X.env)).any (·.1) = false := by rfl) : DP X W (.Call (.Name x p) (e :: es) [] pos) (pA (callV F) ga) := by
  exact ⟨PE.conseq (cl ha.run he hpl) fun σ H Q ⟨θ, G, ρ, Ws, q⟩ => ⟨θ, G, ρ, Ws, (Pk.ak q).imp fun vs H1 ⟨ds, G1, hds, e1, z, q1⟩ => call_pk (hl ρ ds hds) z q1⟩⟩
theorem df_call (cl : Cal X W x ps F) (ha : DA X W (e :: es) ga) (hl : ∀ ρ ds, ga ρ = .ok ds → ds.length = ps.length)
    (he : starEach (e :: es) X.env = (false, eval e X.env) :: starEach es X.env := by rfl) (hpl : (backTo pos (starEach es X.env)).any (·.1) = false := by rfl) : DF X W (.Call (.Name x p) (e :: es) [] pos) (pA (callL F) ga) := by
  refine ⟨PE.conseq (cl ha.run he hpl) fun σ H Q ⟨θ, G, ρ, Ws, S, q⟩ => ⟨θ, G, ρ, Ws, S, ?_⟩⟩
  unfold pA at q
  cases hds : ga ρ with
  | st => rw [hds] at q; exact q
  | ex x => rw [hds] at q; exact q
  | ok ds =>
    rw [hds] at q
    intro vs G1 H1 e1 z
    refine callL_fk (hl ρ ds hds) z ⟨S.ext e1, ?_⟩
    have q : match callL F ds with | .ok (.lst ds) => ∀ p vs G' H', Ext G H G' H' → H p = none → G' p = none → H' p = some (.lst vs) → RpA X.K G' vs ds → Q (.ref p) H' | .ok _ => False | .ex x => ∀ d G' H', Ext G H G' H' → XkOk X.K G' H' x d → W (.ref x.cls) d σ H' | .st => False := q
    cases hc : callL F ds with
    | st => rw [hc] at q; exact q
    | ex x => rw [hc] at q; exact fun d G' H' e' => q d G' H' (e1.trans e')
    | ok d =>
      rw [hc] at q
      cases d with
      | lst xs => exact fun p vs G' H' e' hp => q p vs G' H' (e1.trans e') (e1.h.free hp)
      | _ => exact q
theorem len_aNil (ρ : List Sl) (ds : List D) (h : aNil ρ = .ok ds) : ds.length = 0 := by cases h; rfl
theorem len_aCons {g : List Sl → R D} {n : Nat} (hg : ∀ ρ ds, ga ρ = .ok ds → ds.length = n) (ρ : List Sl) (ds : List D) (h : aCons g ga ρ = .ok ds) : ds.length = n + 1 := by
  unfold aCons at h
  cases h1 : g ρ with
  | st => rw [h1] at h; cases h
  | ex x => rw [h1] at h; cases h
  | ok d =>
    rw [h1] at h
    cases h2 : ga ρ with
    | st => rw [R.bind_ok, h2] at h; cases h
    | ex x => rw [R.bind_ok, h2] at h; cases h
    | ok xs =>
      rw [R.bind_ok, h2] at h
      cases h
      simp [hg ρ xs h2]
end

/-! ### several values, the state changing -/
inductive RA where
  | ok (ds : List D) (ρ : List Sl) | ex (x : Exn) (ρ : List Sl) | st
def RE.bindA (r : RE) (f : D → List Sl → RA) : RA := match r with
  | .ok d ρ => f d ρ
  | .ex x ρ => .ex x ρ
  | .st => .st
def RA.bind (r : RA) (f : List D → List Sl → RA) : RA := match r with
  | .ok d ρ => f d ρ
  | .ex x ρ => .ex x ρ
  | .st => .st
def RA.bindE (r : RA) (f : List D → List Sl → RE) : RE := match r with
  | .ok d ρ => f d ρ
  | .ex x ρ => .ex x ρ
  | .st => .st
@[simp] theorem RE.bindA_ok (d : D) (ρ : List Sl) (f : D → List Sl → RA) : (RE.ok d ρ).bindA f = f d ρ := rfl
@[simp] theorem RA.bind_ok (d : List D) (ρ : List Sl) (f : List D → List Sl → RA) : (RA.ok d ρ).bind f = f d ρ := rfl
@[simp] theorem RA.bindE_ok (d : List D) (ρ : List Sl) (f : List D → List Sl → RE) : (RA.ok d ρ).bindE f = f d ρ := rfl
def Bk (K : Fg) (W : WX) (σ : L2.St) (θ : Nat → Addr) (G H : Hp) (Ws : List Addr) (r : RA) (Q : List V → Hp → Prop) : Prop := match r with
  | .ok ds ρ' => ∀ vs G' H' W', Fr G H Ws G' H' W' → Stt K θ G' H' σ ρ' W' → RpA K G' vs ds → Q vs H'
  | .ex x ρ' => ∀ d G' H' W', Fr G H Ws G' H' W' → Stt K θ G' H' σ ρ' W' → XkOk K G' H' x d → W (.ref x.cls) d σ H'
  | .st => False
def tB' (K : Fg) (W : WX) (f : List Sl → RA) : TA := fun σ H Q => ∃ θ G ρ Ws, Stt K θ G H σ ρ Ws ∧ Bk K W σ θ G H Ws (f ρ) Q
structure DB (X : Cx) (W : WX) (es : List Expr) (f : List Sl → RA) : Prop where
  run : PA X es (tB' X.K W f)
def bNil (ρ : List Sl) : RA := .ok [] ρ
def bCons (f : List Sl → RE) (g : List Sl → RA) (ρ : List Sl) : RA := (f ρ).bindA fun x ρ1 => (g ρ1).bind fun xs ρ2 => .ok (x :: xs) ρ2
section
variable {K : Fg} {W : WX} {σ : L2.St} {θ : Nat → Addr} {G H G1 H1 : Hp} {Ws W1 : List Addr} {Q Q' : List V → Hp → Prop}
theorem Bk.fr {r : RA} (h : Bk K W σ θ G H Ws r Q) (e : Fr G H Ws G1 H1 W1) : Bk K W σ θ G1 H1 W1 r Q := by
  cases r with
  | ok d ρ' => exact fun v G' H' W' e' => h v G' H' W' (e.trans e')
  | ex x ρ' => exact fun v G' H' W' e' => h v G' H' W' (e.trans e')
  | st => exact h
theorem Bk.imp {r : RA} (h : Bk K W σ θ G H Ws r Q) (q : ∀ v H', Q v H' → Q' v H') : Bk K W σ θ G H Ws r Q' := by
  cases r with
  | ok d ρ' => exact fun v G' H' W' e' s z => q _ _ (h v G' H' W' e' s z)
  | ex x ρ' => exact h
  | st => exact h
theorem Bk.ek {r : RE} {k : D → List Sl → RA} (h : Bk K W σ θ G H Ws (r.bindA k) Q) : Ek K W σ θ G H Ws r (fun v H1 => ∃ d ρ1 G1 W1, Fr G H Ws G1 H1 W1 ∧ Stt K θ G1 H1 σ ρ1 W1 ∧ Rp K G1 v d ∧ Bk K W σ θ G1 H1 W1 (k d ρ1) Q) := by
  cases r with
  | ok d ρ' => exact fun v G' H' W' e' s z => ⟨d, ρ', G', W', e', s, z, h.fr e'⟩
  | ex x ρ' => exact h
  | st => exact h
theorem Bk.bind {r : RA} {k : List D → List Sl → RA} (h : Bk K W σ θ G H Ws (r.bind k) Q) : Bk K W σ θ G H Ws r (fun v H1 => ∃ d ρ1 G1 W1, Fr G H Ws G1 H1 W1 ∧ Stt K θ G1 H1 σ ρ1 W1 ∧ RpA K G1 v d ∧ Bk K W σ θ G1 H1 W1 (k d ρ1) Q) := by
  cases r with
  | ok d ρ' => exact fun v G' H' W' e' s z => ⟨d, ρ', G', W', e', s, z, h.fr e'⟩
  | ex x ρ' => exact h
  | st => exact h
theorem Ek.bk {r : RA} {k : List D → List Sl → RE} {Q : VK} (h : Ek K W σ θ G H Ws (r.bindE k) Q) : Bk K W σ θ G H Ws r (fun v H1 => ∃ d ρ1 G1 W1, Fr G H Ws G1 H1 W1 ∧ Stt K θ G1 H1 σ ρ1 W1 ∧ RpA K G1 v d ∧ Ek K W σ θ G1 H1 W1 (k d ρ1) Q) := by
  cases r with
  | ok d ρ' => exact fun v G' H' W' e' s z => ⟨d, ρ', G', W', e', s, z, h.fr e'⟩
  | ex x ρ' => exact h
  | st => exact h
end
theorem len_bNil (ρ : List Sl) (ds : List D) (ρ' : List Sl) (h : bNil ρ = .ok ds ρ') : ds.length + 1 = 1 := by cases h; rfl
theorem len_bCons {f : List Sl → RE} {g : List Sl → RA} {n : Nat} (hg : ∀ ρ ds ρ', g ρ = .ok ds ρ' → ds.length + 1 = n) (ρ : List Sl) (ds : List D) (ρ' : List Sl) (h : bCons f g ρ = .ok ds ρ') : ds.length + 1 = n + 1 := by
  unfold bCons at h
  cases h1 : f ρ with
  | st => rw [h1] at h; cases h
  | ex x ρ1 => rw [h1] at h; cases h
  | ok d ρ1 =>
    rw [h1] at h
    cases h2 : g ρ1 with
    | st => rw [RE.bindA_ok, h2] at h; cases h
    | ex x ρ2 => rw [RE.bindA_ok, h2] at h; cases h
    | ok xs ρ2 =>
      rw [RE.bindA_ok, h2] at h
      cases h
      have := hg ρ1 xs _ h2
      simpa using this
section
variable {X : Cx} {W : WX} {e : Expr} {es : List Expr} {fe : List Sl → RE} {fa : List Sl → RA} {pos p : Pos}
theorem db_nil : DB X W [] bNil := ⟨PA.conseq pa_nil fun σ H Q ⟨θ, G, ρ, Ws, S, q⟩ => q [] G H Ws Fr.refl S .nil⟩
theorem db_cons (h : DE X W e fe) (t : DB X W es fa) (hs : starEach (e :: es) X.env = (false, eval e X.env) :: starEach es X.env := by rfl) : DB X W (e :: es) (bCons fe fa) :=
  ⟨PA.conseq (pa_cons h.run t.run hs) fun σ H Q ⟨θ, G, ρ, Ws, S, q⟩ => ⟨θ, G, ρ, Ws, S, (Bk.ek q).imp fun v H1 ⟨d, ρ1, G1, W1, f1, S1, z, q1⟩ => ⟨θ, G1, ρ1, W1, S1, q1.bind.imp fun vs H2 ⟨ds, ρ2, G2, W2, f2, S2, z2, q2⟩ => q2 _ G2 H2 W2 Fr.refl S2 (.cons (z.mono f2.g) z2)⟩⟩⟩
def eA (f : List D → R D) (g : List Sl → RA) (ρ : List Sl) : RE := (g ρ).bindE fun ds ρ1 => up (f ds) ρ1
theorem de_tup {x1} (h : DB X W es fa) : DE X W (.Tuple es x1 pos) (eA mkT fa) :=
  ⟨PE.conseq (pe_tupX h.run) fun σ H Q ⟨θ, G, ρ, Ws, S, q⟩ => ⟨θ, G, ρ, Ws, S, (Ek.bk q).imp fun vs H1 ⟨ds, ρ1, G1, W1, f1, S1, z, q1⟩ => by
    have q1 := Ek.pk S1 q1
    unfold mkT at q1
    by_cases hf : fits ds = true
    · rw [if_pos hf] at q1
      exact ⟨by rw [z.length]; exact of_decide_eq_true hf, fun p o hp ho => q1.new hp (new_tup hp ho q1.same z)⟩
    · rw [if_neg hf] at q1; exact q1.2.elim⟩⟩
theorem de_lst (h : DB X W es fa) : DE X W (.List es pos) (eA mkL fa) :=
  ⟨PE.conseq (pe_lst h.run) fun σ H Q ⟨θ, G, ρ, Ws, S, q⟩ => ⟨θ, G, ρ, Ws, S, (Ek.bk q).imp fun vs H1 ⟨ds, ρ1, G1, W1, f1, S1, z, q1⟩ => by
    have q1 := Ek.pk S1 q1
    unfold mkL at q1
    by_cases hf : fits ds = true
    · rw [if_pos hf] at q1
      exact ⟨by rw [z.length]; exact of_decide_eq_true hf, fun p hp => q1.new hp (new_lst hp q1.same z)⟩
    · rw [if_neg hf] at q1; exact q1.2.elim⟩⟩

/-! ### calls that are handed an owned thing first -/
/-- the call f(x, ..): slot i's thing is lent -/
def callO (F : List Sl → RS) (i : Nat) (ds : List D) (ρ : List Sl) : RE := match ρ[i]? with
  | some (.own t o) => (match F (.own 1 o :: ds.map .val) with
    | .ok (.rt d) (.own 1 o' :: _) => .ok d (ρ.set i (.own t o'))
    | .ex x (.own 1 o' :: _) => .ex x (ρ.set i (.own t o'))
    | _ => .st)
  | _ => .st
def eCallO (F : List Sl → RS) (i : Nat) (g : List Sl → RA) (ρ : List Sl) : RE := match ρ[i]? with
  | some (.own _ _) => (g ρ).bindE fun ds ρ1 => callO F i ds ρ1
  | _ => .st
theorem callO_ek {K : Fg} {σ : L2.St} {θ : Nat → Addr} {G H : Hp} {ρ : List Sl} {Ws : List Addr} {F : List Sl → RS} {i : Nat} {ds : List D} {v : V} {vs : List V} {n : Nat} {Q : VK} (S : Stt K θ G H σ ρ Ws) (hv : σ[i]? = some (some v)) (hl : ds.length + 1 = n) (r : RpA K G vs ds)
    (q : Ek K W σ θ G H Ws (callO F i ds ρ) Q) : spD K n F (v :: vs) H Q (WE W σ) := by
  unfold callO at q
  cases hρ : ρ[i]? with
  | none => rw [hρ] at q; exact q.elim
  | some sl =>
    rw [hρ] at q
    cases sl with
    | un => exact q.elim
    | val d => exact q.elim
    | own t o =>
      dsimp only at q
      obtain ⟨v', fp, A, B, h1, h2, h3, h4, h5⟩ := S.sts.focus hρ
      rw [hv] at h1
      cases h1
      subst h4
      obtain ⟨n1, n2, n3⟩ := nodup_mid S.nd
      have g0 : ∀ a ∈ fp, G a = none := fun a ha => S.out a (by simp [ha])
      obtain ⟨ad, ead⟩ : ∃ ad, v = .ref ad := by cases h2 <;> exact ⟨_, rfl⟩
      have SA : Stt K (fun _ => ad) G H ((v :: vs).map some) (.own 1 o :: ds.map .val) fp := by
        have q1 := Sts.own (θ := fun _ => ad) (t := 1) h2 (.inr ead) (Sts.vals r)
        rw [List.append_nil] at q1
        exact ⟨S.same, q1, n1, g0⟩
      refine ⟨by rw [← hl, List.length_cons, r.length], fun _ => ad, G, _, fp, SA, ?_⟩
      -- the caller's state behind it
      have fin : ∀ {G' H' : Hp} {W' : List Addr} {o' : Ow} {rest : List Sl}, Fr G H fp G' H' W' → Stt K (fun _ => ad) G' H' ((v :: vs).map some) (.own 1 o' :: rest) W' →
          ∃ W2, Fr G H (A ++ fp ++ B) G' H' W2 ∧ Stt K θ G' H' σ (ρ.set i (.own t o')) W2 := by
        intro G' H' W' o' rest fr S'
        have keepAB : ∀ a ∈ A ++ B, ∀ u, H a = some u → H' a = some u := fun a ha u hu => fr.k a u hu fun z => n3 a z ha
        generalize hσ : (v :: vs).map some = σ' at S'
        obtain ⟨s1, s2, s3, s4⟩ := S'
        cases s2 with
        | @own v2 t2 o2 fp2 σ2 ρ2 W3 r2 tt2 rest2 =>
          have ev : v2 = v := by
            have := hσ
            simp at this
            exact this.1.symm
          subst ev
          obtain ⟨z1, _⟩ := h5 G' H' fr.g keepAB
          have mem2 : ∀ a ∈ fp2, a ∈ fp ∨ H a = none := fun a ha => fr.w a (List.mem_append_left _ ha)
          have inAB : ∀ a ∈ A ++ B, ∃ u, H a = some u := fun a ha => S.sts.in_ a (by rcases List.mem_append.mp ha with z | z <;> simp [z])
          have dis : ∀ a ∈ fp2, a ∉ A ++ B := fun a ha hb => by
            rcases mem2 a ha with z | z
            · exact n3 a z hb
            · obtain ⟨u, hu⟩ := inAB a hb; rw [z] at hu; cases hu
          refine ⟨A ++ fp2 ++ B, ⟨fr.g, fun a u h hn => fr.k a u h fun z => hn (by simp [z]), fun a ha => ?_, fun a u h => ?_, fr.al⟩, s1, z1 o' fp2 r2, nodup_mid' (List.nodup_append.mp s3).1 n2 dis, fun a ha => ?_⟩
          · rcases List.mem_append.mp ha with ha | ha
            · rcases List.mem_append.mp ha with ha | ha
              · exact .inl (by simp [ha])
              · exact (mem2 a ha).elim (fun z => .inl (by simp [z])) .inr
            · exact .inl (by simp [ha])
          · rcases fr.n a u h with z | z | z
            · exact .inl z
            · exact .inr (.inl (by simp [z]))
            · exact .inr (.inr z)
          · have AB : a ∈ A ++ B → G' a = none := fun hb => by
              cases q' : G' a with
              | none => rfl
              | some u =>
                rcases fr.n a u q' with z | z | z
                · rw [S.out a (by rcases List.mem_append.mp hb with y | y <;> simp [y])] at z; cases z
                · exact absurd hb (n3 a z)
                · obtain ⟨u', hu⟩ := inAB a hb; rw [z] at hu; cases hu
            rcases List.mem_append.mp ha with ha | ha
            · rcases List.mem_append.mp ha with ha | ha
              · exact AB (List.mem_append_left _ ha)
              · exact s4 a (List.mem_append_left _ ha)
            · exact AB (List.mem_append_right _ ha)
      cases hF : F (.own 1 o :: ds.map .val) with
      | st => rw [hF] at q; exact q
      | ex x ρ' =>
        rw [hF] at q
        cases ρ' with
        | nil => exact q.elim
        | cons sl rest =>
          cases sl with
          | un => exact q.elim
          | val d => exact q.elim
          | own t' o' =>
            by_cases ht : t' = 1
            · subst ht
              intro d G' H' W' fr S' xk
              obtain ⟨W2, f2, S2⟩ := fin fr S'
              exact q d G' H' W2 f2 S2 xk
            · have : (match RS.ex x (Sl.own t' o' :: rest) with
                | .ok (.rt d) (.own 1 o' :: _) => RE.ok d (ρ.set i (.own t o'))
                | .ex x (.own 1 o' :: _) => .ex x (ρ.set i (.own t o'))
                | _ => .st) = RE.st := by
                match t', ht with
                | 0, _ => rfl
                | n + 2, _ => rfl
              rw [this] at q
              exact q.elim
      | ok fl ρ' =>
        rw [hF] at q
        cases fl with
        | rt d =>
          cases ρ' with
          | nil => exact q.elim
          | cons sl rest =>
            cases sl with
            | un => exact q.elim
            | val d => exact q.elim
            | own t' o' =>
              by_cases ht : t' = 1
              · subst ht
                intro v' G' H' W' fr S' z
                obtain ⟨W2, f2, S2⟩ := fin fr S'
                exact q v' G' H' W2 f2 S2 z
              · have : (match RS.ok (.rt d) (Sl.own t' o' :: rest) with
                  | .ok (.rt d) (.own 1 o' :: _) => RE.ok d (ρ.set i (.own t o'))
                  | .ex x (.own 1 o' :: _) => .ex x (ρ.set i (.own t o'))
                  | _ => .st) = RE.st := by
                  match t', ht with
                  | 0, _ => rfl
                  | n + 2, _ => rfl
                rw [this] at q
                exact q.elim
        | rtO o => exact q.elim
        | nx => exact q.elim
        | bk => exact q.elim
        | ct => exact q.elim
theorem de_callO {x y : Str} {ps : List Str} {F : List Sl → RS} {i : Nat} {py : Pos} (cl : Cal X W x ps F) (hv : PE X (.Name y py) (tVar i)) (ha : DB X W es fa)
    (hl : ∀ ρ ds ρ', fa ρ = .ok ds ρ' → ds.length + 1 = ps.length)
    (he : starEach (.Name y py :: es) X.env = (false, eval (.Name y py) X.env) :: starEach es X.env := by rfl) (hpl : (backTo pos (starEach es X.env)).any (·.1) = false := by rfl) : DE X W (.Call (.Name x p) (.Name y py :: es) [] pos) (eCallO F i fa) := by
  refine ⟨PE.conseq (cl (pa_cons hv ha.run he) he hpl) fun σ H Q ⟨θ, G, ρ, Ws, S, q⟩ => ?_⟩
  -- the name is read first; its thing is looked at when the call is made
  unfold eCallO at q
  split at q
  · rename_i t o hρ
    obtain ⟨v, fp, h1, _⟩ := S.sts.own_at hρ
    refine ⟨v, h1, θ, G, ρ, Ws, S, ?_⟩
    cases hfa : fa ρ with
    | st => rw [hfa] at q; exact q.elim
    | ex x ρ' => rw [hfa] at q; exact q
    | ok ds ρ1 =>
      rw [hfa] at q
      have q : Ek X.K W σ θ G H Ws (callO F i ds ρ1) Q := q
      exact fun vs G' H' W' fr S' r => callO_ek S' h1 (hl ρ ds ρ1 hfa) r (q.fr fr)
  · exact q.elim
end
end DL

set_option Elab.async false
set_option linter.all false
set_option maxRecDepth 100000
set_option maxHeartbeats 2000000
/-! The data layer, eighth part: owned lists changed; targets that change them; several results at once. -/
namespace DL
open PySem PySem.Spec PyProof.Rows L2

section
variable {K : Fg} {θ : Nat → Addr} {G H : Hp} {σ : L2.St} {ρ : List Sl} {W : List Addr}
/-- one object of slot i's thing is written -/
theorem Stt.write {i t : Nat} {o : Ow} (S : Stt K θ G H σ ρ W) (e : ρ[i]? = some (.own t o)) : ∃ v fp, σ[i]? = some (some v) ∧ Own K G H v o fp ∧ fp.Nodup ∧ (∀ a ∈ fp, G a = none) ∧
    ∀ b u o', b ∈ fp → Own K G (upd H b u) v o' fp → Fr G H W G (upd H b u) W ∧ Stt K θ G (upd H b u) σ (ρ.set i (.own t o')) W := by
  obtain ⟨v, fp, A, B, h1, h2, h3, h4, h5⟩ := S.sts.focus e
  subst h4
  obtain ⟨n1, n2, n3⟩ := nodup_mid S.nd
  have g0 : ∀ a ∈ fp, G a = none := fun a ha => S.out a (by simp [ha])
  refine ⟨v, fp, h1, h2, n1, g0, fun b u o' hb ho => ?_⟩
  have gb := g0 b hb
  refine ⟨⟨Same.refl _, fun a z h hn => by rw [upd_ne (fun q => hn (by simp [q, hb]))]; exact h, fun a ha => .inl ha, fun a z h => .inl h, fun a z => by
    by_cases q : a = b
    · rw [q, upd_same] at z; cases z
    · rw [upd_ne q] at z; exact z⟩, same_aside S.same gb, ?_, S.nd, S.out⟩
  exact (h5 G (upd H b u) (Same.refl _) fun a ha z hz => by rw [upd_ne (fun q => n3 b hb (by rw [← q]; exact ha))]; exact hz).1 o' fp ho
end
/-- append, pop(e) -/
def eApp (i : Nat) (fe : List Sl → RE) (ρ : List Sl) : RE := match ρ[i]? with
  | some (.own _ (.lst _)) => (fe ρ).bind fun d ρ1 => (match ρ1[i]? with
    | some (.own t (.lst ds)) => if ds.length < sizeLine then .ok .non (ρ1.set i (.own t (.lst (ds ++ [d])))) else .st
    | _ => .st)
  | _ => .st
def ePop (i : Nat) (fe : List Sl → RE) (ρ : List Sl) : RE := match ρ[i]? with
  | some (.own _ (.lst _)) => (fe ρ).bind fun d ρ1 => (match ρ1[i]? with
    | some (.own t (.lst ds)) => (match d with
      | .int k => if 0 ≤ k ∧ k < 2 ^ 62 then (match ds[k.toNat]? with
        | some x => .ok x (ρ1.set i (.own t (.lst (ds.eraseIdx k.toNat))))
        | none => .st) else .st
      | _ => .st)
    | _ => .st)
  | _ => .st
section
variable {X : Cx} {W : WX} {e o idx : Expr} {fe : List Sl → RE} {g gi gj : List Sl → R D} {i : Nat} {pos apos cpos : Pos} {x : Str} {py : Pos}
theorem own_lst {K : Fg} {G H : Hp} {v : V} {ds : List D} {fp : List Addr} (h : Own K G H v (.lst ds) fp) : ∃ a vs, v = .ref a ∧ fp = [a] ∧ H a = some (.lst vs) ∧ RpA K G vs ds := by
  cases h with
  | lst h r => exact ⟨_, _, rfl, rfl, h, r⟩
theorem de_app (hv : PE X o (tVar i)) (he : DE X W e fe) (hpe : ∀ to t, PE X o to → PA X [e] t → PE X pos' (tBM X.K "list" rAppend to t)) (hs : starEach [e] X.env = (false, eval e X.env) :: starEach [] X.env := by rfl) : DE X W pos' (eApp i fe) :=
  ⟨PE.conseq (hpe _ _ hv (pa_cons he.run pa_nil hs)) fun σ H Q ⟨θ, G, ρ, Ws, S, q⟩ => by
    unfold eApp at q
    split at q
    · rename_i t0 ds0 h0
      obtain ⟨v, fp, s1, s2, _⟩ := S.sts.own_at h0
      obtain ⟨a, vs, ev, _, ha, _⟩ := own_lst s2
      subst ev
      refine ⟨_, s1, .inl ⟨rfl, _, SqL.of ha⟩, θ, G, ρ, Ws, S, q.bind.imp fun y H1 ⟨d, ρ1, G1, W1, f1, S1, z, q1⟩ => ?_⟩
      split at q1
      · rename_i t ds h1
        split at q1
        · rename_i hz
          obtain ⟨v', fp', s3, s4, n1, g0, wr⟩ := S1.write h1
          rw [s1] at s3
          cases s3
          obtain ⟨a', vs', ev, efp, ha', ra⟩ := own_lst s4
          cases ev
          subst efp
          obtain ⟨fr, S2⟩ := wr a (.lst (vs' ++ [y])) (.lst (ds ++ [d])) (by simp) (.lst upd_same (ra.append (.cons z .nil)))
          exact ⟨a, vs', y, rfl, rfl, ha', by rw [ra.length]; exact hz, q1 .non G1 _ W1 fr S2 .non⟩
        · exact q1.elim
      · exact q1.elim
    · exact q.elim⟩
theorem seqIx {k : Int} {n : Nat} (h : 0 ≤ k) (hn : k.toNat < n) : seqIndex? k n = some k.toNat := by
  have : ixN n k = some k.toNat := by
    unfold ixN
    rw [if_pos h, if_pos (by omega)]
  exact (ixN_seq this).1
theorem de_pop (hv : PE X o (tVar i)) (he : DE X W e fe) (hpe : ∀ to t, PE X o to → PA X [e] t → PE X pos' (tBM X.K "list" rPopAt to t)) (hs : starEach [e] X.env = (false, eval e X.env) :: starEach [] X.env := by rfl) : DE X W pos' (ePop i fe) :=
  ⟨PE.conseq (hpe _ _ hv (pa_cons he.run pa_nil hs)) fun σ H Q ⟨θ, G, ρ, Ws, S, q⟩ => by
    unfold ePop at q
    split at q
    · rename_i t0 ds0 h0
      obtain ⟨v, fp, s1, s2, _⟩ := S.sts.own_at h0
      obtain ⟨a, vs, ev, _, ha, _⟩ := own_lst s2
      subst ev
      refine ⟨_, s1, .inl ⟨rfl, _, SqL.of ha⟩, θ, G, ρ, Ws, S, q.bind.imp fun y H1 ⟨d, ρ1, G1, W1, f1, S1, z, q1⟩ => ?_⟩
      split at q1
      · rename_i t ds h1
        cases z with
        | int k =>
          dsimp only at q1
          split at q1
          · rename_i hk
            split at q1
            · rename_i xd hx
              obtain ⟨v', fp', s3, s4, n1, g0, wr⟩ := S1.write h1
              rw [s1] at s3
              cases s3
              obtain ⟨a', vs', ev, efp, ha', ra⟩ := own_lst s4
              cases ev
              subst efp
              obtain ⟨xv, hxv, rx⟩ := ra.get hx
              obtain ⟨fr, S2⟩ := wr a (.lst (vs'.eraseIdx k.toNat)) (.lst (ds.eraseIdx k.toNat)) (by simp) (.lst upd_same (ra.eraseIdx _))
              exact ⟨a, vs', k, k.toNat, xv, rfl, rfl, ha', by omega, by omega, seqIx hk.1 (List.getElem?_eq_some_iff.mp hxv).1, hxv, q1 xv G1 _ W1 fr S2 rx⟩
            · exact q1.elim
          · exact q1.elim
        | _ => exact q1.elim
      · exact q1.elim
    · exact q.elim⟩
end

/-! ### targets that may change owned things -/
def TgM (K : Fg) (W : WX) (t : TG) (f : D → List Sl → Option (List Sl)) : Prop := ∀ ⦃θ G H σ ρ Ws v d ρ' Q⦄, Stt K θ G H σ ρ Ws → Rp K G v d → f d ρ = some ρ' →
    (∀ σ' G' H' W', Fr G H Ws G' H' W' → Stt K θ G' H' σ' ρ' W' → Q σ' H') → t v σ H Q
def TgsM (K : Fg) (W : WX) (t : TGs) (f : List D → List Sl → Option (List Sl)) : Prop := ∀ ⦃θ G H σ ρ Ws xs ds ρ' Q⦄, Stt K θ G H σ ρ Ws → RpA K G xs ds → f ds ρ = some ρ' →
    (∀ σ' G' H' W', Fr G H Ws G' H' W' → Stt K θ G' H' σ' ρ' W' → Q σ' H') → t xs σ H Q
theorem TgOk.m {K : Fg} {W : WX} {t : TG} {vs : List Nat} {f : D → List Sl → Option (List Sl)} (h : TgOk K Rp t vs f) : TgM K W t f := fun {θ G H σ ρ Ws v d ρ' Q} S r e q =>
  h S r e fun σ' W' S' sb _ => q σ' G H W' (Fr.refl.less fun a ha => sb.subset ha) S'
theorem tm_nil {K : Fg} {W : WX} : TgsM K W gNil gsNil := fun {θ G H σ ρ Ws xs ds ρ' Q} S r e q => by
  cases r with
  | nil => cases e; exact ⟨rfl, q _ _ _ _ Fr.refl S⟩
  | cons _ _ => cases e
theorem tm_cons {K : Fg} {W : WX} {t1 : TG} {t2 : TGs} {f : D → List Sl → Option (List Sl)} {g : List D → List Sl → Option (List Sl)} (r1 : TgM K W t1 f) (r2 : TgsM K W t2 g) : TgsM K W (gCons t1 t2) (gsCons f g) := fun {θ G H σ ρ Ws xs ds ρ' Q} S r e q => by
  cases r with
  | nil => cases e
  | @cons v d xs ds r rt =>
    unfold gsCons at e
    simp only [Option.bind_eq_some_iff] at e
    obtain ⟨ρ1, e1, e2⟩ := e
    exact ⟨v, xs, rfl, r1 S r e1 fun σ1 G1 H1 W1 fr1 S1 => r2 S1 (rt.mono fr1.g) e2 fun σ2 G2 H2 W2 fr2 S2 => q _ _ _ _ (fr1.trans fr2) S2⟩
theorem tm_tup {K : Fg} {W : WX} {t1 : TGs} {f : List D → List Sl → Option (List Sl)} {n : Nat} (r1 : TgsM K W t1 f) (hf : ∀ ds ρ ρ', f ds ρ = some ρ' → ds.length = n) : TgM K W (gTup K n t1) (gTupD f) := fun {θ G H σ ρ Ws v d ρ' Q} S r e q => by
  cases r with
  | tup ht r => exact ⟨_, _, rfl, sameT S.same ht.t, by rw [r.length]; exact hf _ _ _ e, r1 S r e q⟩
  | _ => cases e
/-- x[e] = d -/
def gIx (i : Nat) (g : List Sl → R D) (d : D) (ρ : List Sl) : Option (List Sl) := match ρ[i]?, g ρ with
  | some (.own t (.lst ds)), .ok (.int k) => (ixN ds.length k).map fun j => ρ.set i (.own t (.lst (ds.set j d)))
  | _, _ => none
/-- x[e1][e2] = d, a list of lists -/
def gIx2 (i : Nat) (g1 g2 : List Sl → R D) (d : D) (ρ : List Sl) : Option (List Sl) := match ρ[i]?, g1 ρ, g2 ρ with
  | some (.own t (.ll dss)), .ok (.int k1), .ok (.int k2) => (ixN dss.length k1).bind fun j1 => (dss[j1]?).bind fun ds => (ixN ds.length k2).map fun j2 => ρ.set i (.own t (.ll (dss.set j1 (ds.set j2 d))))
  | _, _, _ => none
theorem tm_ix {K : Fg} {W : WX} {i : Nat} {g : List Sl → R D} : TgM K W (gSub (tVar i) (tZ Zc K W g) rSetL) (gIx i g) := fun {θ G H σ ρ Ws v d ρ' Q} S r e q => by
  unfold gIx at e
  split at e
  · rename_i t ds k h0 hg
    rw [Option.map_eq_some_iff] at e
    obtain ⟨j, hj, rfl⟩ := e
    obtain ⟨v0, fp0, s1, s2, _⟩ := S.sts.own_at h0
    obtain ⟨a, vs, ev, _, ha, _⟩ := own_lst s2
    subst ev
    refine ⟨_, s1, θ, G, ρ, Ws, S, ?_⟩
    rw [hg]
    intro u G1 H1 e1 z
    cases z
    have S1 := S.ext e1
    obtain ⟨v', fp', s3, s4, n1, g0, wr⟩ := S1.write h0
    rw [s1] at s3
    cases s3
    obtain ⟨a', vs', ev, efp, ha', ra⟩ := own_lst s4
    cases ev
    subst efp
    obtain ⟨fr, S2⟩ := wr a (.lst (vs'.set j v)) (.lst (ds.set j d)) (by simp) (.lst upd_same (ra.set j (r.mono e1.g)))
    exact ⟨a, vs', k, j, rfl, rfl, ha', by rw [ra.length]; exact hj, q _ _ _ _ ((Fr.of e1).trans fr) S2⟩
  · cases e
theorem refs_inj' : ∀ {as bs : List Addr}, as.map V.ref = bs.map V.ref → as = bs
  | [], [], _ => rfl
  | [], _ :: _, h => by simp at h
  | _ :: _, [], h => by simp at h
  | a :: as, b :: bs, h => by
    simp only [List.map_cons, List.cons.injEq, V.ref.injEq] at h
    rw [h.1, refs_inj' h.2]
theorem refs_inj {as bs : List Addr} (h : HO.lst (as.map V.ref) = HO.lst (bs.map V.ref)) : as = bs := refs_inj' (by injection h)
theorem LLs.get {K : Fg} {G H : Hp} {as : List Addr} {dss : List (List D)} (h : LLs K G H as dss) {j : Nat} {ds : List D} (e : dss[j]? = some ds) : ∃ a vs, as[j]? = some a ∧ H a = some (.lst vs) ∧ RpA K G vs ds := by
  induction h generalizing j with
  | nil => simp at e
  | cons h r _ ih =>
    cases j with
    | zero => simp at e; subst e; exact ⟨_, _, rfl, h, r⟩
    | succ j => simpa using ih (j := j) (by simpa using e)
theorem LLs.set {K : Fg} {G H : Hp} {as : List Addr} {dss : List (List D)} (h : LLs K G H as dss) (hn : as.Nodup) {j : Nat} {a : Addr} {vs : List V} {ds : List D} (e : as[j]? = some a) (r : RpA K G vs ds) : LLs K G (upd H a (.lst vs)) as (dss.set j ds) := by
  induction h generalizing j with
  | nil => simp at e
  | @cons b ws bs as dss h r0 t ih =>
    rw [List.nodup_cons] at hn
    cases j with
    | zero =>
      simp at e
      subst e
      exact .cons upd_same r (t.aside hn.1)
    | succ j =>
      have hb : b ≠ a := fun z => hn.1 (z ▸ List.mem_of_getElem? (by simpa using e))
      exact .cons (by rw [upd_ne hb]; exact h) r0 (ih hn.2 (by simpa using e))
theorem LLs.len {K : Fg} {G H : Hp} {as : List Addr} {dss : List (List D)} (h : LLs K G H as dss) : as.length = dss.length := by
  induction h with
  | nil => rfl
  | cons _ _ _ ih => simp [ih]
theorem own_ll {K : Fg} {G H : Hp} {v : V} {dss : List (List D)} {fp : List Addr} (h : Own K G H v (.ll dss) fp) : ∃ a as, v = .ref a ∧ fp = a :: as ∧ H a = some (.lst (as.map V.ref)) ∧ LLs K G H as dss := by
  cases h with
  | ll h r => exact ⟨_, _, rfl, rfl, h, r⟩
theorem ixN_lt {n : Nat} {k : Int} {j : Nat} (h : ixN n k = some j) : j < n := (ixN_seq h).2.1
theorem tm_ix2 {K : Fg} {W : WX} {i : Nat} {g1 g2 : List Sl → R D} : TgM K W (gSub (tOp (rIxL K) (tVar i) (tZ Zc K W g1)) (tZ Zc K W g2) rSetL) (gIx2 i g1 g2) := fun {θ G H σ ρ Ws v d ρ' Q} S r e q => by
  unfold gIx2 at e
  split at e
  · rename_i t dss k1 k2 h0 hg1 hg2
    simp only [Option.bind_eq_some_iff, Option.map_eq_some_iff] at e
    obtain ⟨j1, hj1, ds, hds, j2, hj2, rfl⟩ := e
    obtain ⟨v0, fp0, s1, s2, _⟩ := S.sts.own_at h0
    obtain ⟨a, as, ev, _, ha, hll⟩ := own_ll s2
    subst ev
    refine ⟨_, s1, θ, G, ρ, Ws, S, ?_⟩
    rw [hg1]
    intro u G1 H1 e1 z
    cases z
    have S1 := S.ext e1
    obtain ⟨b, vs, hb, hvb, rb⟩ := hll.get hds
    refine ⟨a, as.map V.ref, k1, .ref b, rfl, rfl, SqL.of (e1.h _ _ ha), ?_, θ, G1, ρ, Ws, S1, ?_⟩
    · unfold L2.atI
      rw [List.length_map, hll.len, hj1]
      show (as.map V.ref)[j1]? = some (V.ref b)
      rw [List.getElem?_map, hb]; rfl
    rw [hg2]
    intro u G2 H2 e2 z
    cases z
    have S2 := S1.ext e2
    obtain ⟨v', fp', s3, s4, n1, g0, wr⟩ := S2.write h0
    rw [s1] at s3
    cases s3
    obtain ⟨a', as', ev, efp, ha', hll'⟩ := own_ll s4
    cases ev
    subst efp
    have eas : as' = as := refs_inj (by rw [← Option.some.inj (ha'.symm.trans ((e1.trans e2).h _ _ ha))])
    subst eas
    rw [List.nodup_cons] at n1
    have hba : b ≠ a := fun z => n1.1 (z ▸ List.mem_of_getElem? hb)
    obtain ⟨fr, S3⟩ := wr b (.lst (vs.set j2 v)) (.ll (dss.set j1 (ds.set j2 d))) (List.mem_cons_of_mem _ (List.mem_of_getElem? hb))
      (.ll (by rw [upd_ne (Ne.symm hba)]; exact ha') (hll'.set n1.2 hb ((rb.mono (e1.trans e2).g).set j2 (r.mono (e1.trans e2).g))))
    exact ⟨b, vs, k2, j2, rfl, rfl, (e1.trans e2).h _ _ hvb, by rw [rb.length]; exact hj2, q _ _ _ _ ((Fr.of (e1.trans e2)).trans fr) S3⟩
  · cases e
section
variable {X : Cx} {W : WX} {s : Stmt} {e : Expr} {g : List Sl → R D} {ge : List Sl → RE}
theorem ds_asgM {gg : TG} {tf : D → List Sl → Option (List Sl)} (hg : TgM X.K W gg tf) (he : DP X W e g) (hps : ∀ te, PE X e te → PS X s (tAsg te gg)) : DS X W s (sAsg tf g) :=
  ⟨PS.conseq (hps _ he.run) fun E σ H ⟨θ, G, ρ, Ws, S, q⟩ => ⟨θ, G, ρ, Ws, (Fin.pk (Z := Zc) S q).imp fun v H1 ⟨d, G1, e1, S1, z, q1⟩ => by
    cases hf : tf d ρ with
    | none => rw [hf] at q1; exact q1.elim
    | some ρ' =>
      rw [hf] at q1
      exact hg S1 z hf fun σ' G' H' W' fr S' => q1 σ' G' H' W' fr S'⟩⟩
theorem ds_asgME {gg : TG} {tf : D → List Sl → Option (List Sl)} (hg : TgM X.K W gg tf) (he : DE X W e ge) (hps : ∀ te, PE X e te → PS X s (tAsg te gg)) : DS X W s (sAsgE tf ge) :=
  ⟨PS.conseq (hps _ he.run) fun E σ H ⟨θ, G, ρ, Ws, S, q⟩ => ⟨θ, G, ρ, Ws, S, (Fin.ek q).imp fun v H1 ⟨d, ρ1, G1, W1, e1, S1, z, q1⟩ => by
    cases hf : tf d ρ1 with
    | none => rw [hf] at q1; exact q1.elim
    | some ρ' =>
      rw [hf] at q1
      exact hg S1 z hf fun σ' G' H' W' fr S' => q1 σ' G' H' W' fr S'⟩⟩
/-- found[e].append(x), a list of lists -/
def eAppLL (i : Nat) (g1 g : List Sl → R D) (ρ : List Sl) : RE := match ρ[i]?, g1 ρ, g ρ with
  | some (.own t (.ll dss)), .ok (.int k1), .ok d => (match (ixN dss.length k1) with
    | some j => (match dss[j]? with
      | some ds => if ds.length < sizeLine then .ok .non (ρ.set i (.own t (.ll (dss.set j (ds ++ [d]))))) else .st
      | none => .st)
    | none => .st)
  | _, _, _ => .st
theorem de_appLL {i : Nat} {o idx c : Expr} {g1 : List Sl → R D} (hv : PE X o (tVar i)) (hi : DP X W idx g1) (he : DP X W e g) (hpe : ∀ to ti t, PE X o to → PE X idx ti → PA X [e] t → PE X c (tBM X.K "list" rAppend (tOp (rIxL X.K) to ti) t)) (hs : starEach [e] X.env = (false, eval e X.env) :: starEach [] X.env := by rfl) : DE X W c (eAppLL i g1 g) :=
  ⟨PE.conseq (hpe _ _ _ hv hi.run (pa_cons he.run pa_nil hs)) fun σ H Q ⟨θ, G, ρ, Ws, S, q⟩ => by
    unfold eAppLL at q
    split at q
    · rename_i t dss k1 d h0 hg1 hg
      split at q
      · rename_i j hj
        split at q
        · rename_i ds hds
          split at q
          · rename_i hz
            obtain ⟨v0, fp0, s1, s2, _⟩ := S.sts.own_at h0
            obtain ⟨a, as, ev, _, ha, hll⟩ := own_ll s2
            subst ev
            obtain ⟨b, vs, hb, hvb, rb⟩ := hll.get hds
            refine ⟨_, s1, θ, G, ρ, Ws, S, ?_⟩
            rw [hg1]
            intro u G1 H1 e1 z
            cases z
            have S1 := S.ext e1
            refine ⟨a, as.map V.ref, k1, .ref b, rfl, rfl, SqL.of (e1.h _ _ ha), ?_, .inl ⟨rfl, _, SqL.of (e1.h _ _ hvb)⟩, θ, G1, ρ, Ws, S1, ?_⟩
            · unfold L2.atI
              rw [List.length_map, hll.len, hj]
              show (as.map V.ref)[j]? = some (V.ref b)
              rw [List.getElem?_map, hb]; rfl
            rw [hg]
            intro u G2 H2 e2 z
            have S2 := S1.ext e2
            obtain ⟨v', fp', s3, s4, n1, g0, wr⟩ := S2.write h0
            rw [s1] at s3
            cases s3
            obtain ⟨a', as', ev, efp, ha', hll'⟩ := own_ll s4
            cases ev
            subst efp
            have eas : as' = as := refs_inj (by rw [← Option.some.inj (ha'.symm.trans ((e1.trans e2).h _ _ ha))])
            subst eas
            rw [List.nodup_cons] at n1
            have hba : b ≠ a := fun z => n1.1 (z ▸ List.mem_of_getElem? hb)
            obtain ⟨fr, S3⟩ := wr b (.lst (vs ++ [u])) (.ll (dss.set j (ds ++ [d]))) (List.mem_cons_of_mem _ (List.mem_of_getElem? hb))
              (.ll (by rw [upd_ne (Ne.symm hba)]; exact ha') (hll'.set n1.2 hb ((rb.mono (e1.trans e2).g).append (.cons z .nil))))
            exact ⟨b, vs, u, rfl, rfl, (e1.trans e2).h _ _ hvb, by rw [rb.length]; exact hz, q .non G2 _ Ws ((Fr.of (e1.trans e2)).trans fr) S3 .non⟩
          · exact q.elim
        · exact q.elim
      · exact q.elim
    · exact q.elim⟩

/-! ### a value, or a new list of one's own -/
inductive AV where
  | v (d : D) | f (ds : List D)
inductive AvOk (K : Fg) (G H0 H : Hp) : V → AV → List Addr → Prop
  | v {x : V} {d : D} : Rp K G x d → AvOk K G H0 H x (.v d) []
  | f {a : Addr} {vs : List V} {ds : List D} : H a = some (.lst vs) → RpA K G vs ds → H0 a = none → G a = none → AvOk K G H0 H (.ref a) (.f ds) [a]
inductive AvsOk (K : Fg) (G H0 H : Hp) : List V → List AV → List Addr → Prop
  | nil : AvsOk K G H0 H [] [] []
  | cons {x : V} {d : AV} {fp : List Addr} {xs : List V} {ds : List AV} {fps : List Addr} : AvOk K G H0 H x d fp → AvsOk K G H0 H xs ds fps → (∀ a ∈ fp, a ∉ fps) → AvsOk K G H0 H (x :: xs) (d :: ds) (fp ++ fps)
inductive RV where
  | ok (ds : List AV) (ρ : List Sl) | ex (x : Exn) (ρ : List Sl) | st
def vNil (ρ : List Sl) : RV := .ok [] ρ
def RV.bind (r : RV) (f : List AV → List Sl → RV) : RV := match r with
  | .ok d ρ => f d ρ
  | .ex x ρ => .ex x ρ
  | .st => .st
@[simp] theorem RV.bind_ok (d : List AV) (ρ : List Sl) (f : List AV → List Sl → RV) : (RV.ok d ρ).bind f = f d ρ := rfl
def vVal (g : List Sl → RE) (t : List Sl → RV) (ρ : List Sl) : RV := match g ρ with
  | .ok d ρ1 => (t ρ1).bind fun ds ρ2 => .ok (.v d :: ds) ρ2
  | .ex x ρ1 => .ex x ρ1
  | .st => .st
def vFr (g : List Sl → R D) (t : List Sl → RV) (ρ : List Sl) : RV := match g ρ with
  | .ok (.lst ds) => (t ρ).bind fun r ρ2 => .ok (.f ds :: r) ρ2
  | .ex x => .ex x ρ
  | _ => .st
def Vk (K : Fg) (W : WX) (σ : L2.St) (θ : Nat → Addr) (G H : Hp) (Ws : List Addr) (r : RV) (Q : List V → Hp → Prop) : Prop := match r with
  | .ok ds ρ' => ∀ vs fp G' H' W', Fr G H Ws G' H' W' → Stt K θ G' H' σ ρ' W' → AvsOk K G' H H' vs ds fp → (∀ a ∈ fp, a ∉ W') → Q vs H'
  | .ex x ρ' => ∀ d G' H' W', Fr G H Ws G' H' W' → Stt K θ G' H' σ ρ' W' → XkOk K G' H' x d → W (.ref x.cls) d σ H'
  | .st => False
def tV' (K : Fg) (W : WX) (f : List Sl → RV) : TA := fun σ H Q => ∃ θ G ρ Ws, Stt K θ G H σ ρ Ws ∧ Vk K W σ θ G H Ws (f ρ) Q
structure DV (X : Cx) (W : WX) (es : List Expr) (f : List Sl → RV) : Prop where
  run : PA X es (tV' X.K W f)
theorem AvOk.keep {K : Fg} {G H0 H G' H' : Hp} {W W' : List Addr} {x : V} {d : AV} {fp : List Addr} (h : AvOk K G H0 H x d fp) (fr : Fr G H W G' H' W') (hw : ∀ a ∈ fp, a ∉ W) : AvOk K G' H0 H' x d fp := by
  cases h with
  | v r => exact .v (r.mono fr.g)
  | @f a vs ds h1 h2 h3 h4 =>
    refine .f (fr.k _ _ h1 (hw a (by simp))) (h2.mono fr.g) h3 ?_
    cases q : G' a with
    | none => rfl
    | some u =>
      rcases fr.n a u q with z | z | z
      · rw [h4] at z; cases z
      · exact absurd z (hw a (by simp))
      · rw [h1] at z; cases z
theorem AvsOk.old {K : Fg} {G H0 H1 H : Hp} {xs : List V} {ds : List AV} {fp : List Addr} (h : AvsOk K G H1 H xs ds fp) (s : ∀ a, H1 a = none → H0 a = none) : AvsOk K G H0 H xs ds fp := by
  induction h with
  | nil => exact .nil
  | cons h _ n ih =>
    refine .cons ?_ ih n
    cases h with
    | v r => exact .v r
    | f h1 h2 h3 h4 => exact .f h1 h2 (s _ h3) h4
theorem AvsOk.new {K : Fg} {G H0 H : Hp} {xs : List V} {ds : List AV} {fp : List Addr} (h : AvsOk K G H0 H xs ds fp) : ∀ a ∈ fp, H0 a = none ∧ G a = none := by
  induction h with
  | nil => intro a ha; cases ha
  | cons h _ n ih =>
    intro a ha
    rcases List.mem_append.mp ha with z | z
    · cases h with
      | v r => cases z
      | f h1 h2 h3 h4 => rw [List.mem_singleton.mp z]; exact ⟨h3, h4⟩
    · exact ih a z
theorem dv_nil : DV X W [] vNil := ⟨PA.conseq pa_nil fun σ H Q ⟨θ, G, ρ, Ws, S, q⟩ => q [] [] G H Ws Fr.refl S .nil (by simp)⟩
theorem Vk.fr {K : Fg} {σ : L2.St} {θ : Nat → Addr} {G H G1 H1 : Hp} {Ws W1 : List Addr} {r : RV} {Q : List V → Hp → Prop} (h : Vk K W σ θ G H Ws r Q) (e : Fr G H Ws G1 H1 W1) : Vk K W σ θ G1 H1 W1 r Q := by
  cases r with
  | ok d ρ' => exact fun vs fp G' H' W' e' S' z => h vs fp G' H' W' (e.trans e') S' (z.old e.al)
  | ex x ρ' => exact fun v G' H' W' e' => h v G' H' W' (e.trans e')
  | st => exact h
theorem dv_val {es : List Expr} {ge : List Sl → RE} {t : List Sl → RV} (h : DE X W e ge) (ht : DV X W es t) (hs : starEach (e :: es) X.env = (false, eval e X.env) :: starEach es X.env := by rfl) : DV X W (e :: es) (vVal ge t) :=
  ⟨PA.conseq (pa_cons h.run ht.run hs) fun σ H Q ⟨θ, G, ρ, Ws, S, q⟩ => ⟨θ, G, ρ, Ws, S, by
    unfold vVal at q
    cases hg : ge ρ with
    | st => rw [hg] at q; exact q
    | ex x ρ' => rw [hg] at q; exact q
    | ok d ρ1 =>
      rw [hg] at q
      have q : Vk X.K W σ θ G H Ws ((t ρ1).bind fun ds ρ2 => .ok (.v d :: ds) ρ2) Q := q
      intro v G1 H1 W1 fr S1 z
      refine ⟨θ, G1, ρ1, W1, S1, ?_⟩
      have q1 := q.fr fr
      cases htv : t ρ1 with
      | st => rw [htv] at q1; exact q1
      | ex x ρ' => rw [htv] at q1; exact q1
      | ok ds ρ2 =>
        rw [htv] at q1
        exact fun vs fp G2 H2 W2 fr2 S2 zs hd => q1 (v :: vs) fp G2 H2 W2 fr2 S2 (AvsOk.cons (fp := []) (.v (z.mono fr2.g)) zs (by simp)) hd⟩⟩
theorem dv_fr {es : List Expr} {t : List Sl → RV} (h : DF X W e g) (ht : DV X W es t) (hs : starEach (e :: es) X.env = (false, eval e X.env) :: starEach es X.env := by rfl) : DV X W (e :: es) (vFr g t) :=
  ⟨PA.conseq (pa_cons h.run ht.run hs) fun σ H Q ⟨θ, G, ρ, Ws, S, q⟩ => ⟨θ, G, ρ, Ws, S, by
    unfold vFr at q
    cases hg : g ρ with
    | st => rw [hg] at q; exact q
    | ex x => rw [hg] at q; exact fun d G' H' e' z => q d G' H' Ws (Fr.of e') (S.ext e') z
    | ok d =>
      rw [hg] at q
      cases d with
      | lst ds =>
        have q : Vk X.K W σ θ G H Ws ((t ρ).bind fun r ρ2 => .ok (.f ds :: r) ρ2) Q := q
        intro p vs G1 H1 e1 hp gp hp1 ra
        have S1 := S.ext e1
        refine ⟨θ, G1, ρ, Ws, S1, ?_⟩
        have fr : Fr G H Ws G1 H1 Ws := Fr.of e1
        have nW : p ∉ Ws := fun z => by
          obtain ⟨u, hu⟩ := S.sts.in_ p z
          rw [hp] at hu; cases hu
        cases htv : t ρ with
        | st => rw [htv] at q; exact q
        | ex x ρ' => rw [htv] at q; exact Vk.fr (r := .ex x ρ') q fr
        | ok ds' ρ2 =>
          rw [htv] at q
          intro us fp G2 H2 W2 fr2 S2 zs hd
          have av : AvOk X.K G2 H H2 (.ref p) (.f ds) [p] := AvOk.keep (.f hp1 ra hp gp) fr2 (fun a ha => by rw [List.mem_singleton.mp ha]; exact nW)
          refine q (.ref p :: us) ([p] ++ fp) G2 H2 W2 (fr.trans fr2) S2 (.cons av (zs.old fun a h => e1.h.free h) fun a ha hb => ?_) fun a ha hb => ?_
          · rw [List.mem_singleton.mp ha] at hb
            have := (zs.new p hb).1
            rw [hp1] at this; cases this
          · rcases List.mem_append.mp ha with z | z
            · rw [List.mem_singleton.mp z] at hb
              rcases fr2.w p hb with y | y
              · exact nW y
              · rw [hp1] at y; cases y
            · exact hd a z hb
      | _ => exact q⟩⟩
/-- the slots' new things, from the left -/
def putAll : List Nat → List AV → List Sl → Option (List Sl)
  | [], [], ρ => some ρ
  | i :: is, a :: r, ρ => if i < ρ.length then putAll is r (ρ.set i (match a with | .v d => .val d | .f ds => .own 0 (.lst ds))) else none
  | _, _, _ => none
def setAll : List Nat → List V → L2.St → L2.St
  | i :: is, v :: vs, σ => setAll is vs (σ.set i (some v))
  | _, _, σ => σ
def sPar (is : List Nat) (f : List Sl → RV) (ρ : List Sl) : RS := match f ρ with
  | .ok ds ρ1 => (match putAll is ds ρ1 with
    | some ρ2 => .ok .nx ρ2
    | none => .st)
  | .ex x ρ1 => .ex x ρ1
  | .st => .st
theorem AvsOk.shrink {K : Fg} {G H0 H : Hp} {x : V} {d : AV} {xs : List V} {ds : List AV} {fp : List Addr} (h : AvsOk K G H0 H (x :: xs) (d :: ds) fp) : ∃ f1 f2, fp = f1 ++ f2 ∧ AvOk K G H0 H x d f1 ∧ AvsOk K G H0 H xs ds f2 ∧ ∀ a ∈ f1, a ∉ f2 := by
  cases h with
  | cons h t n => exact ⟨_, _, rfl, h, t, n⟩
theorem putAll_ok {K : Fg} {θ : Nat → Addr} {G H0 H : Hp} : ∀ {is : List Nat} {xs : List V} {ds : List AV} {fp : List Addr} {σ : L2.St} {ρ ρ' : List Sl} {Ws : List Addr}, Stt K θ G H σ ρ Ws → AvsOk K G H0 H xs ds fp → (∀ a ∈ fp, a ∉ Ws) → putAll is ds ρ = some ρ' →
    ∃ W', Stt K θ G H (setAll is xs σ) ρ' W' ∧ ∀ a ∈ W', a ∈ fp ∨ a ∈ Ws
  | [], xs, ds, fp, σ, ρ, ρ', Ws, S, h, hd, e => by
    cases h with
    | nil => cases e; exact ⟨Ws, S, fun a ha => .inr ha⟩
    | cons _ _ _ => cases e
  | i :: is, xs, ds, fp, σ, ρ, ρ', Ws, S, h, hd, e => by
    cases h with
    | nil => cases e
    | @cons x d f1 xs ds f2 h t n =>
      unfold putAll at e
      split at e
      · rename_i hi
        cases h with
        | @v _ d r =>
          obtain ⟨W1, S1, sb⟩ := S.put hi r
          obtain ⟨W', S', m⟩ := putAll_ok S1 t (fun a ha z => hd a (by simpa using ha) (sb.subset z)) e
          exact ⟨W', S', fun a ha => (m a ha).elim (fun z => .inl (by simpa using z)) fun z => .inr (sb.subset z)⟩
        | @f a vs ds1 h1 h2 h3 h4 =>
          obtain ⟨W1, S1, m1⟩ := S.putOwn (i := i) (o := .lst ds1) (fp := [a]) hi (.lst h1 h2) (by simp) (fun b hb => by rw [List.mem_singleton.mp hb]; exact hd a (by simp)) (fun b hb => by rw [List.mem_singleton.mp hb]; exact h4)
          obtain ⟨W', S', m⟩ := putAll_ok S1 t (fun b hb z => by
            rcases m1 b z with y | y
            · exact n b y hb
            · exact hd b (by simp [hb]) y) e
          refine ⟨W', S', fun b hb => ?_⟩
          rcases m b hb with y | y
          · exact .inl (by simp [y])
          · rcases m1 b y with z | z
            · exact .inl (by simp at z; simp [z])
            · exact .inr z
      · cases e
theorem AvsOk.keep {K : Fg} {G H0 H G' H' : Hp} {W W' : List Addr} {xs : List V} {ds : List AV} {fp : List Addr} (h : AvsOk K G H0 H xs ds fp) (fr : Fr G H W G' H' W') (hw : ∀ a ∈ fp, a ∉ W) : AvsOk K G' H0 H' xs ds fp := by
  induction h with
  | nil => exact .nil
  | cons h _ n ih => exact .cons (h.keep fr fun a ha => hw a (List.mem_append_left _ ha)) (ih fun a ha => hw a (List.mem_append_right _ ha)) n
/-- one more object, or none -/
def Ax (H1 H2 : Hp) : Prop := H2 = H1 ∨ ∃ p o, H1 p = none ∧ H2 = upd H1 p o
theorem putAll_len {K : Fg} {G H0 H : Hp} : ∀ {is : List Nat} {xs : List V} {ds : List AV} {fp : List Addr} {ρ ρ' : List Sl}, AvsOk K G H0 H xs ds fp → putAll is ds ρ = some ρ' → xs.length = is.length
  | [], _, _, _, _, _, .nil, _ => rfl
  | [], _, _, _, _, _, .cons _ _ _, e => by cases e
  | _ :: _, _, _, _, _, _, .nil, e => by cases e
  | i :: is, _, _, _, ρ, _, .cons h t n, e => by
    unfold putAll at e
    split at e
    · simp [putAll_len t e]
    · cases e
/-- several names at once, by the rule of the statement -/
theorem ds_par {is : List Nat} {es : List Expr} {f : List Sl → RV} {ts : TA → TS} (h : DV X W es f) (hps : ∀ ta, PA X es ta → PS X s (ts ta)) (hts : ∀ E σ H, tV' X.K W f σ H (fun vs H1 => vs.length = is.length ∧ ∀ H2, Ax H1 H2 → E.nx (setAll is vs σ) H2) → ts (tV' X.K W f) E σ H) : DS X W s (sPar is f) :=
  ⟨PS.conseq (hps _ h.run) fun E σ H ⟨θ, G, ρ, Ws, S, q⟩ => hts _ _ _ ⟨θ, G, ρ, Ws, S, by
    unfold sPar at q
    cases hf : f ρ with
    | st => rw [hf] at q; exact q
    | ex x ρ1 => rw [hf] at q; exact fun d G' H' W' fr S' xk => q d σ G' H' W' fr S' xk
    | ok ds ρ1 =>
      rw [hf] at q
      intro vs fp G1 H1 W1 fr S1 av hd
      dsimp only at q
      split at q
      · rename_i ρ2 hp
        refine ⟨putAll_len av hp, fun H2 hx => ?_⟩
        obtain ⟨fr2, S2⟩ : Fr G1 H1 W1 G1 H2 W1 ∧ Stt X.K θ G1 H2 σ ρ1 W1 := by
          rcases hx with rfl | ⟨p, o, hp', rfl⟩
          · exact ⟨Fr.refl, S1⟩
          · have e := Ext.aside (o := o) S1.same hp'
            exact ⟨Fr.of e, S1.ext e⟩
        have av2 := av.keep fr2 hd
        obtain ⟨W', S', m⟩ := putAll_ok S2 av2 hd hp
        have f12 := fr.trans fr2
        refine q _ G1 H2 W' ⟨f12.g, f12.k, fun a ha => ?_, f12.n, f12.al⟩ S'
        rcases m a ha with z | z
        · exact .inr (av.new a z).1
        · exact f12.w a z
      · exact q.elim⟩⟩
theorem tV'_mono {K : Fg} {f : List Sl → RV} {σ : L2.St} {H : Hp} {Q Q' : List V → Hp → Prop} (q : ∀ vs H', Q vs H' → Q' vs H') (h : tV' K W f σ H Q) : tV' K W f σ H Q' := by
  obtain ⟨θ, G, ρ, Ws, S, h⟩ := h
  refine ⟨θ, G, ρ, Ws, S, ?_⟩
  cases hf : f ρ with
  | st => rw [hf] at h; exact h
  | ex x ρ1 => rw [hf] at h; exact h
  | ok ds ρ1 => rw [hf] at h; exact fun vs fp G1 H1 W1 fr S1 av hd => q _ _ (h vs fp G1 H1 W1 fr S1 av hd)
theorem ds_par2 {i j : Nat} {es : List Expr} {f : List Sl → RV} (h : DV X W es f) (hps : ∀ ta, PA X es ta → PS X s (tPar i j ta)) : DS X W s (sPar [i, j] f) :=
  ds_par h hps fun E σ H q => tV'_mono (fun vs H' ⟨hl, q⟩ => by
    match vs, hl with
    | [v, w], _ => exact ⟨v, w, rfl, q _ (.inl rfl)⟩) q
theorem ds_par3 {i j l : Nat} {es : List Expr} {f : List Sl → RV} (h : DV X W es f) (hps : ∀ ta, PA X es ta → PS X s (tPar3 i j l ta)) : DS X W s (sPar [i, j, l] f) :=
  ds_par h hps fun E σ H q => tV'_mono (fun vs H' ⟨hl, q⟩ => by
    match vs, hl with
    | [v, w, u], _ => exact ⟨v, w, u, rfl, q _ (.inl rfl)⟩) q
/-- .. by a tuple that is laid and taken apart -/
def NmOk (ts : TGs) (is : List Nat) : Prop := ∀ (vs : List V) (σ : L2.St) (H : Hp) (Q : L2.St → Hp → Prop), vs.length = is.length → Q (setAll is vs σ) H → ts vs σ H Q
theorem nm_nil : NmOk gNil [] := fun vs σ H Q hl q => by
  match vs, hl with
  | [], _ => exact ⟨rfl, q⟩
theorem nm_cons {i : Nat} {ts : TGs} {is : List Nat} (h : NmOk ts is) : NmOk (gCons (gName i) ts) (i :: is) := fun vs σ H Q hl q => by
  match vs, hl with
  | v :: vs, hl => exact ⟨v, vs, rfl, h vs _ H Q (by simpa using hl) q⟩
theorem ds_parT {is : List Nat} {n : Nat} {es : List Expr} {f : List Sl → RV} {ts : TGs} (h : DV X W es f) (hn : is.length = n) (hz : n ≤ sizeLine) (hts : NmOk ts is) (hps : ∀ te, PE X e te → PS X s (tAsg te (gTup X.K n ts))) (hpe : ∀ ta, PA X es ta → PE X e (tTup ta)) : DS X W s (sPar is f) :=
  ds_par (ts := fun ta => tAsg (tTup ta) (gTup X.K n ts)) h (fun ta hta => hps _ (hpe ta hta)) fun E σ H q => tV'_mono (fun vs H' ⟨hl, q⟩ => ⟨by omega, fun p hp => ⟨p, vs, rfl, SqT.of upd_same, by omega, hts vs σ _ _ hl (q _ (.inr ⟨p, _, hp, rfl⟩))⟩⟩) q
end
end DL

set_option Elab.async false
set_option linter.all false
set_option maxRecDepth 100000
set_option maxHeartbeats 2000000
/-! Defs that show nested data: no display is under way around them (the law's own defs). -/
namespace DL
open PySem PySem.Spec PyProof.Rows L2
structure FnOg (P : Program) (w : World) (K : Fg) (mg : Str → Option Value) (base : Heap) (k : Nat) (f : Addr) (fd : FuncData) (ps : List Str) (sp : Sp) : Prop where
  len : ∀ vs H Q E, sp vs H Q E → vs.length = ps.length
  run : ∀ {A : Around} {outer : List Env} {s : Shared} {H : Hp} {args : Args} {us : List Value} {vs : List V} {Q : VK} {E : XK}, A.guards = some [] → Room k A → Env0 P w K mg base A outer s H → BindsTo s fd args (ps.zip us) → Vals vs us → sp vs H Q E →
    codeAny (model P w) A (.call (.ref f) args) (CR (L2.CX P w) outer P w H s Q E) s
section
variable {P : Program} {w : World} {K : Fg} {mg : Str → Option Value} {base : Heap} {j k : Nat} {f : Addr} {fd : FuncData} {ps : List Str} {sp : Sp}
theorem FnOg.mono (F : FnOg P w K mg base j f fd ps sp) (h : j ≤ k) : FnOg P w K mg base k f fd ps sp := ⟨F.len, fun hg hr => F.run hg (hr.mono h)⟩
theorem og_of_ok (F : FnOk P w K mg base (L2.CX P w) k f fd ps sp) : FnOg P w K mg base k f fd ps sp := ⟨F.len, fun _ hr e0 hb r h => F.run _ _ _ _ _ _ _ _ _ hr e0 hb r h⟩
theorem FnOg.of {x qual : Str} {params : Arguments} {body : List Stmt} {scope : Scope} {dvs : List V} {kws : List (Str × V)} {N : List Str} (F : FunD K x qual params body scope dvs kws f fd) (S : FnScope N ps scope)
    (len : ∀ vs H Q E, sp vs H Q E → vs.length = ps.length)
    (hbody : ∀ (cdv : Value) (A : Around) (outer : List Env) (s : Shared) (H : Hp) (vs : List V) (Q : VK) (E : XK), A.guards = some [] → Room k (A.deeper (envOfC qual scope s.heap.objs.size f cdv)) → sp vs H Q E →
      ∃ t, PSs (cxOf (L2.CX P w) P w K mg base N qual scope f cdv A outer s H E) body t ∧ t { nx := fun _ H' => Q .non H', rt := Q } (start N vs) H) : FnOg P w K mg base (k + 1) f fd ps sp := by
  obtain ⟨oc, od, dV, kV, doc, pm, an, cdv, ct, osl, rfl, lk, hcd, _, _⟩ := F.ex
  constructor
  · exact len
  · intro A outer s H args us vs Q E hgd hr e0 hb r hsp
    have KX := e0.mod.kin.keeps fun b o z => (e0.bs b o z).1
    refine codeAny_call_function hr.depth (KX _ _ lk) rfl S.co S.gen rfl (PySem.W.codeRec_of KX hcd) (hb _ _ _ _ ?_)
    refine wpAny_newFunctionEnv_cells S.kind ?_ fun env he s1 x1 => ?_
    · rintro ⟨n, v⟩ hy
      cases S.par n (List.of_mem_zip hy).1 with
      | inl q => exact .inl q
      | inr q => exact .inr ⟨q, PySem.W.cellsFrom_some _ _ _ (.inl q)⟩
    subst he
    have lim0 := e0.mod.nolimit.keeps fun b o z => (e0.bs b o z).1
    refine ⟨lim0.keeps x1.toInCall.keep, codeAny_func ?_⟩
    obtain ⟨t, ht, hq⟩ := hbody cdv A outer s H vs Q E hgd (hr.deeper _) hsp
    have I := inv_start (CX := L2.CX P w) (E := E) (f := f) (cd := cdv) S hr.hd e0 (len _ _ _ _ hsp) r x1
    refine wpAny_mono (ht.run [] s1 (start N vs) H _ I hq) (fun fl s' hs => ?_) fun e s' hs => hs
    cases fl with
    | ret u => exact let ⟨v, σ', H', J, rv, q⟩ := hs; ⟨v, H', J.os, J.bare, J.base, J.hok, rv, q⟩
    | next => exact let ⟨σ', H', J, q⟩ := hs; ⟨V.non, H', J.os, J.bare, J.base, J.hok, rfl, q⟩
    | brk => exact hs.elim fun _ z => z.elim fun _ y => y.2.elim
    | cont => exact hs.elim fun _ z => z.elim fun _ y => y.2.elim
theorem endCX {outer : List Env} {H : Hp} {s s' : Shared} {e : Value} (h : L2.CX P w outer H s (fun _ _ _ => False) e s') : False := by
  obtain ⟨a, B, H', cls, d, _, _, _, _, _, _, _, h⟩ := h
  exact h
/-- the script tracked, or one of the written part -/
theorem lawG_two {a : Addr} {s₁ : Shared} {vs : List Value} {ns : List Int} {C : Prop} (KX : K.In s₁.heap) (ha : s₁.heap.get? a = some { cls := .type "list", data := .seq vs.toArray }) (hi : IntsAre vs ns) (hl : ns.length ≤ sizeLine)
    (main : ∀ H : Hp, Only H → SqL K H a (ns.map V.int) → HOk P w H s₁.heap → (∀ b, H b ≠ none → b = a) → (H a ≠ none → K.lookup a = none) → C) : C := by
  have rv := vals_ints hi
  have hlen : vs.length = ns.length := hi.length
  by_cases hk : ∃ o, K.lookup a = some o
  · obtain ⟨o, hk⟩ := hk
    have e := KX a o hk
    rw [ha] at e
    cases e
    exact main (fun _ => none) (fun _ => .inl rfl) (.inr ⟨_, vs.toArray, _, hk, rfl, rfl, rfl, by simpa [hlen] using hl, by simpa using rv⟩) (fun _ _ z => nomatch z) (fun _ z => (z rfl).elim) (fun z => (z rfl).elim)
  · have hk : K.lookup a = none := by
      cases q : K.lookup a with
      | none => rfl
      | some o => exact (hk ⟨o, q⟩).elim
    let T : HO := .frz { cls := .type "list", data := .seq vs.toArray } (.lst (ns.map V.int))
    have tA : (fun b => if b = a then some T else none : Hp) a = some T := if_pos rfl
    have tN : ∀ b, b ≠ a → (fun b => if b = a then some T else none : Hp) b = none := fun b h => if_neg h
    refine main (fun b => if b = a then some T else none) (fun b => ?_) (.inl (.inr ⟨_, tA⟩)) (fun b u z => ?_) (fun b z => Classical.byContradiction fun h => z (tN b h)) fun _ => hk
    · by_cases h : b = a
      · subst h; exact .inr ⟨_, _, tA⟩
      · exact .inl (tN b h)
    · by_cases h : b = a
      · subst h
        rw [tA] at z
        cases z
        exact ⟨ha, by simpa using hl, vs, _, rv, ha⟩
      · rw [tN b h] at z; cases z
/-- the law's own call -/
theorem lawG_call {mb : Str → Option Value} {fa a : Addr} {x : Str} {s₁ : Shared} {vs : List Value} {ns : List Int}
    (KX : K.In s₁.heap) (hns : s₁.heap.Ns mainGlobals mg) (hb : s₁.heap.Ns builtinsNs mb) (hbb : ∀ x : Str, x ≠ "__name__" → mb x = bootBuiltins x) (hlim : s₁.heap.NoLimit) (hg : s₁.gens = #[])
    (ha : s₁.heap.get? a = some { cls := .type "list", data := .seq vs.toArray }) (hi : IntsAre vs ns) (hl : ns.length ≤ sizeLine) (hr : Room k callerA)
    (F : ∀ base : Heap, K.In base → base.Ns mainGlobals mg → FnOg P w K mg base k fa fd [x] sp) (hbind : ∀ (s : Shared) (u : Value), BindsTo s fd ⟨[u], []⟩ [(x, u)])
    (hsp : ∀ H : Hp, Only H → SqL K H a (ns.map V.int) → sp [.ref a] H (fun v _ => v = .bl true) fun _ _ _ => False) :
    codeAny (model P w) callerA (.call (.ref fa) ⟨[.ref a], []⟩) (fun r s' => r = .ok (.ret (.bool true)) ∧ OldK s₁.heap s'.heap ∧ s'.os = s₁.os ∧ AllBare s'.gens) s₁ := by
  -- a def over every base that says all that is asked, at the one place where it is called
  have rv := vals_ints hi
  have main : ∀ H : Hp, Only H → SqL K H a (ns.map V.int) → HOk P w H s₁.heap → (∀ b, H b ≠ none → b = a) → (H a ≠ none → K.lookup a = none) →
      codeAny (model P w) callerA (.call (.ref fa) ⟨[.ref a], []⟩) (fun r s' => r = .ok (.ret (.bool true)) ∧ OldK s₁.heap s'.heap ∧ s'.os = s₁.os ∧ AllBare s'.gens) s₁ := by
    intro H hO hS hok hA hK
    have lone : ∀ b, H b = none ∨ b = a := fun b => by
      by_cases q : H b = none
      · exact .inl q
      · exact .inr (hA b q)
    have dictless : ∀ {b : Addr} {o : Obj} {es : Array DictEntry} {ep : Nat}, s₁.heap.get? b = some o → o.data = .dict es ep → H b = none := by
      intro b o es ep e d
      rcases lone b with q | rfl
      · exact q
      · rw [ha] at e
        cases e
        cases (show Data.seq vs.toArray _ = Data.dict es ep from d)
    have nsH : ∀ {b : Addr} {m : Str → Option Value}, s₁.heap.Ns b m → (hidT s₁.heap H).Ns b m := fun ⟨o, es, ep, e, d, r⟩ => ⟨o, es, ep, hidT_get e (dictless e d), d, r⟩
    have inH : K.In (hidT s₁.heap H) := by
      intro b o e
      refine hidT_get (KX b o e) ?_
      rcases lone b with q | rfl
      · exact q
      · by_cases q : H b = none
        · exact q
        · rw [hK q] at e; cases e
    have env : Env0 P w K mg (hidT s₁.heap H) callerA [] s₁ H := by
      refine ⟨rfl, ⟨inH, nsH hns, ⟨mb, nsH hb, hbb⟩, ?_⟩, fun b o e => of_hidT e, Nat.le_of_eq (hidT_size _ _), trivial, (fun b z => nomatch (show b ∈ ([] : List Addr) from z)), hok, AllBare.of_eq hg⟩
      obtain ⟨mc, h1, h2⟩ := hlim
      exact ⟨mc, nsH h1, h2⟩
    have run := (F _ inH (nsH hns)).run (args := ⟨[.ref a], []⟩) (us := [.ref a]) (vs := [.ref a]) rfl hr env (hbind s₁ (.ref a)) (.cons rfl .nil) (hsp H hO hS)
    refine codeAny_mono run fun r s' h => ?_
    match r, h with
    | .error e, h => exact (endCX h).elim
    | .ok (.ret u), h =>
      obtain ⟨v, H', os, bare, un, hok', r', q⟩ := h
      cases (show v = .bl true from q)
      cases r'
      refine ⟨rfl, OldK.of_keep fun b o e => ?_, os, bare⟩
      cases q : H b with
      | none => exact un.keep b o e q (by intro z; cases z) (by simp)
      | some u =>
        rcases hO b with z | ⟨ob, xs, z⟩
        · rw [q] at z; cases z
        · obtain ⟨e1, _⟩ := hok b _ z
          obtain ⟨e2, _⟩ := hok' b _ (un.frzs b ob _ z)
          rw [e] at e1; cases e1
          exact e2
    | .ok .next, h => exact h.elim
    | .ok .brk, h => exact h.elim
    | .ok .cont, h => exact h.elim
  exact lawG_two KX ha hi hl main
/-- the law over a head by facts -/
theorem walkG {l : PySem.W.OpenLaw} {n k : Nat} {q : Program} {loose : List Str} {XP : (Str → Option Value) → Heap → Prop} {YP : World → Heap → Prop} {d : DefRec} {x : Str}
    (hn : l.most = some n) (hn2 : n ≤ sizeLine) (hdf : d.params.defaults = []) (hr : Room k callerA)
    (F : ∀ (w : World) (mg : Str → Option Value) (fa : Addr) (h : Heap), YP w h → h.Ns mainGlobals mg → mg d.name = some (.ref fa) →
      ∃ (K : Fg) (fd : FuncData) (sp : Sp), K.In h ∧ (∀ (s : Shared) (u : Value), BindsTo s fd ⟨[u], []⟩ [(x, u)]) ∧
        (∀ (H : Hp) (a : Addr) (ns : List Int), ns.length ≤ n → Only H → SqL K H a (ns.map V.int) → sp [.ref a] H (fun v _ => v = .bl true) fun _ _ _ => False) ∧
        ∀ base : Heap, K.In base → base.Ns mainGlobals mg → FnOg l.prog w K mg base k fa fd [x] sp) :
    PySem.W.WalkO q loose XP YP l.row.toRowW d [] (fun f vs => PySem.call f vs) :=
  Att.attach_call hn hdf fun w _ _ mg _ fa _ _ _ _ a _ ns G Y _ _ _ hmg hobj hints hlen hg => by
    obtain ⟨K, fd, sp, KX, hb, hsp, hF⟩ := F w mg fa _ Y G.T.g hmg
    exact lawG_call KX G.T.g G.T.b G.T.builtins G.T.nolimit hg hobj hints (Nat.le_trans hlen hn2) hr hF hb (hsp · a ns hlen)
end
/-! ### such defs called, by data -/
structure FnG (P : Program) (w : World) (K : Fg) (mg : Str → Option Value) (base : Heap) (k : Nat) (x : Str) (ps : List Str) (F : List Sl → RS) : Prop where
  ex : ∃ f fd, FnOg P w K mg base k f fd ps (spD K ps.length F) ∧ mg x = some (.ref f) ∧ PySem.W.keepIn K (.ref f) = true ∧ Binds K fd ps []
theorem FnD.g {P : Program} {w : World} {K : Fg} {mg : Str → Option Value} {base : Heap} {k : Nat} {x : Str} {ps : List Str} {F : List Sl → RS} (h : FnD P w K mg base k x ps F) : FnG P w K mg base k x ps F :=
  let ⟨f, fd, a, b, c, d⟩ := h.ex; ⟨f, fd, og_of_ok a, b, c, d⟩
theorem FnG.mono {P : Program} {w : World} {K : Fg} {mg : Str → Option Value} {base : Heap} {j k : Nat} {x : Str} {ps : List Str} {F : List Sl → RS} (h : FnG P w K mg base j x ps F) (hk : j ≤ k) : FnG P w K mg base k x ps F :=
  let ⟨f, fd, a, b, c, d⟩ := h.ex; ⟨f, fd, a.mono hk, b, c, d⟩
section
variable {X : Cx} {W : WX} {k : Nat} {f : Addr} {fd : FuncData} {ps : List Str} {sp : Sp} {x : Str} {p pos : Pos} {e : Expr} {es : List Expr} {t : TA}
theorem run_og {pins : List (Addr × Obj)} {σ : L2.St} {H : Hp} {s : Shared} {Q : VK} {us : List Value} {vs : List V} (F : FnOg X.prog X.w X.K X.mg X.base k f fd ps sp) (hgd : X.A.guards = some []) (hr : Room k X.A) (hb : Binds X.K fd ps []) (tk : Takes X W)
    (I : Inv X pins σ H s) (r : Vals vs us) (h : sp vs H Q (WE W σ)) : wpAny (model X.prog X.w) X.A (PySem.call (.ref f) us) (EP X pins σ Q) X.xe s := by
  have b := hb s us I.kIn (by simpa using r.length.symm.trans (F.len _ _ _ _ h))
  refine wpAny_call (codeAny_mono (F.run (args := ⟨us, []⟩) hgd hr I.env0 (by simpa using b) r h) fun r s' hq => ?_)
  match r, hq with
  | .error e, hq => exact passAt tk σ pins H s e s' I hq
  | .ok (.ret u), hq => exact I.after hq
  | .ok .next, hq => exact hq.elim
  | .ok .brk, hq => exact hq.elim
  | .ok .cont, hq => exact hq.elim
theorem pe_callG (F : FnOg X.prog X.w X.K X.mg X.base k f fd ps sp) (hgd : X.A.guards = some []) (hr : Room k X.A) (hg : Gl X x) (hm : X.mg x = some (.ref f)) (hk : PySem.W.keepIn X.K (.ref f) = true) (hb : Binds X.K fd ps []) (tk : Takes X W)
    (ha : PA X (e :: es) t) (hdb : (x == ("__debug__" : Str)) = false := by decide) (he : starEach (e :: es) X.env = (false, eval e X.env) :: starEach es X.env := by rfl) (hpl : (backTo pos (starEach es X.env)).any (·.1) = false := by rfl) :
    PE X (.Call (.Name x p) (e :: es) [] pos) (tCallS sp (WE W) t) :=
  ⟨fun pins s σ H Q I h => wpAny_Call_Name_kw (ld_glob I hg hm (PySem.W.callWith_K I.ok.mod.kin hk (thn (ha.run pos pins s σ H _ I h) fun _ _ ⟨_, _, I1, r, q⟩ => ⟨I1.kIn, run_og F hgd hr hb tk I1 r q⟩) he hpl) hdb)⟩
theorem FnG.cal {F : List Sl → RS} (fn : FnG X.prog X.w X.K X.mg X.base k x ps F) (hgd : X.A.guards = some []) (hr : Room k X.A) (hg : Gl X x) (tk : Takes X W) (hdb : (x == ("__debug__" : Str)) = false := by decide) : Cal X W x ps F := by
  obtain ⟨f, fd, hF, hm, hk, hb⟩ := fn.ex
  exact fun _ _ _ _ _ ha he hpl => pe_callG hF hgd hr hg hm hk hb tk ha hdb he hpl
end
section
variable {P : Program} {w : World} {K : Fg} {mg : Str → Option Value} {base : Heap}
/-- the promise by a reading of the body -/
theorem FnG.fnok {x qual : Str} {params : Arguments} {body : List Stmt} {scope : Scope} {dvs : List V} {kws : List (Str × V)} {f : Addr} {fd : FuncData} {N ps : List Str} {k : Nat} {m : List Sl → RS} (F : FunD K x qual params body scope dvs kws f fd) (S : FnScope N ps scope)
    (h : ∀ (cdv : Value) (A : Around) (outer : List Env) (s : Shared) (H : Hp) (E : XK), A.guards = some [] → Room k (A.deeper (envOfC qual scope s.heap.objs.size f cdv)) → DSs (cxOf (L2.CX P w) P w K mg base N qual scope f cdv A outer s H E) (fun cls d _ H => E cls d H) body m) :
    FnOg P w K mg base (k + 1) f fd ps (spD K ps.length (runF (N.length - ps.length) m)) :=
  FnOg.of F S (fun vs H Q E h => h.1) fun cdv A outer s H vs Q E hgd hr q => ⟨_, (h cdv A outer s H E hgd hr).run, spD_start q⟩
end
end DL

set_option Elab.async false
set_option linter.all false
set_option maxRecDepth 100000
set_option maxHeartbeats 2000000
/-! The data layer, ninth part: effects in tests, sources, targets; methods and small built-ins. -/
namespace DL
open PySem PySem.Spec PyProof.Rows L2

/-! ### tests that change the state -/
inductive RB where
  | ok (b : Bool) (ρ : List Sl) | ex (x : Exn) (ρ : List Sl) | st
def RB.bind (r : RB) (f : Bool → List Sl → RB) : RB := match r with
  | .ok b ρ => f b ρ
  | .ex x ρ => .ex x ρ
  | .st => .st
def RB.bindE (r : RB) (f : Bool → List Sl → RE) : RE := match r with
  | .ok b ρ => f b ρ
  | .ex x ρ => .ex x ρ
  | .st => .st
def RB.seq (r : RB) (f : Bool → List Sl → RS) : RS := match r with
  | .ok b ρ => f b ρ
  | .ex x ρ => .ex x ρ
  | .st => .st
def RE.bindB (r : RE) (f : D → List Sl → RB) : RB := match r with
  | .ok b ρ => f b ρ
  | .ex x ρ => .ex x ρ
  | .st => .st
@[simp] theorem RB.bind_ok (b : Bool) (ρ : List Sl) (f : Bool → List Sl → RB) : (RB.ok b ρ).bind f = f b ρ := rfl
@[simp] theorem RB.bindE_ok (b : Bool) (ρ : List Sl) (f : Bool → List Sl → RE) : (RB.ok b ρ).bindE f = f b ρ := rfl
@[simp] theorem RB.seq_ok (b : Bool) (ρ : List Sl) (f : Bool → List Sl → RS) : (RB.ok b ρ).seq f = f b ρ := rfl
@[simp] theorem RE.bindB_ok (d : D) (ρ : List Sl) (f : D → List Sl → RB) : (RE.ok d ρ).bindB f = f d ρ := rfl
def Qk (K : Fg) (W : WX) (σ : L2.St) (θ : Nat → Addr) (G H : Hp) (Ws : List Addr) (r : RB) (Q : Bool → Hp → Prop) : Prop := match r with
  | .ok b ρ' => ∀ G' H' W', Fr G H Ws G' H' W' → Stt K θ G' H' σ ρ' W' → Q b H'
  | .ex x ρ' => ∀ d G' H' W', Fr G H Ws G' H' W' → Stt K θ G' H' σ ρ' W' → XkOk K G' H' x d → W (.ref x.cls) d σ H'
  | .st => False
def tQ (K : Fg) (W : WX) (f : List Sl → RB) : TT := fun σ H Q => ∃ θ G ρ Ws, Stt K θ G H σ ρ Ws ∧ Qk K W σ θ G H Ws (f ρ) Q
structure DQT (X : Cx) (W : WX) (e : Expr) (f : List Sl → RB) : Prop where
  run : PT X e (tQ X.K W f)
structure DQW (X : Cx) (W : WX) (e : Expr) (f : List Sl → RB) : Prop where
  run : PW X e (tQ X.K W f)
section
variable {K : Fg} {W : WX} {σ : L2.St} {θ : Nat → Addr} {G H G1 H1 : Hp} {Ws W1 : List Addr} {ρ : List Sl} {Q Q' : Bool → Hp → Prop} {E : Ends}
theorem Qk.fr {r : RB} (h : Qk K W σ θ G H Ws r Q) (e : Fr G H Ws G1 H1 W1) : Qk K W σ θ G1 H1 W1 r Q := by
  cases r with
  | ok d ρ' => exact fun G' H' W' e' => h G' H' W' (e.trans e')
  | ex x ρ' => exact fun v G' H' W' e' => h v G' H' W' (e.trans e')
  | st => exact h
theorem Qk.imp {r : RB} (h : Qk K W σ θ G H Ws r Q) (q : ∀ v H', Q v H' → Q' v H') : Qk K W σ θ G H Ws r Q' := by
  cases r with
  | ok d ρ' => exact fun G' H' W' e' s => q _ _ (h G' H' W' e' s)
  | ex x ρ' => exact h
  | st => exact h
theorem Qk.bind {r : RB} {k : Bool → List Sl → RB} (h : Qk K W σ θ G H Ws (r.bind k) Q) : Qk K W σ θ G H Ws r (fun b H1 => ∃ ρ1 G1 W1, Fr G H Ws G1 H1 W1 ∧ Stt K θ G1 H1 σ ρ1 W1 ∧ Qk K W σ θ G1 H1 W1 (k b ρ1) Q) := by
  cases r with
  | ok d ρ' => exact fun G' H' W' e' s => ⟨ρ', G', W', e', s, h.fr e'⟩
  | ex x ρ' => exact h
  | st => exact h
theorem Qk.ek {r : RE} {k : D → List Sl → RB} (h : Qk K W σ θ G H Ws (r.bindB k) Q) : Ek K W σ θ G H Ws r (fun v H1 => ∃ d ρ1 G1 W1, Fr G H Ws G1 H1 W1 ∧ Stt K θ G1 H1 σ ρ1 W1 ∧ Rp K G1 v d ∧ Qk K W σ θ G1 H1 W1 (k d ρ1) Q) := by
  cases r with
  | ok d ρ' => exact fun v G' H' W' e' s z => ⟨d, ρ', G', W', e', s, z, h.fr e'⟩
  | ex x ρ' => exact h
  | st => exact h
theorem Ek.qk {r : RB} {k : Bool → List Sl → RE} {Q : VK} (h : Ek K W σ θ G H Ws (r.bindE k) Q) : Qk K W σ θ G H Ws r (fun b H1 => ∃ ρ1 G1 W1, Fr G H Ws G1 H1 W1 ∧ Stt K θ G1 H1 σ ρ1 W1 ∧ Ek K W σ θ G1 H1 W1 (k b ρ1) Q) := by
  cases r with
  | ok d ρ' => exact fun G' H' W' e' s => ⟨ρ', G', W', e', s, h.fr e'⟩
  | ex x ρ' => exact h
  | st => exact h
theorem Fin.qk {r : RB} {k : Bool → List Sl → RS} (h : Fin K W θ G H Ws (r.seq k) E) : Qk K W σ θ G H Ws r (fun b H1 => ∃ ρ1 G1 W1, Fr G H Ws G1 H1 W1 ∧ Stt K θ G1 H1 σ ρ1 W1 ∧ Fin K W θ G1 H1 W1 (k b ρ1) E) := by
  cases r with
  | ok d ρ' => exact fun G' H' W' e' s => ⟨ρ', G', W', e', s, h.fr e'⟩
  | ex x ρ' => exact fun d G' H' W' e' s z => h d σ G' H' W' e' s z
  | st => exact h
theorem Qk.val {b : Bool} (S : Stt K θ G H σ ρ Ws) (h : Qk K W σ θ G H Ws (.ok b ρ) Q) : Q b H := h G H Ws Fr.refl S
/-- a pure end -/
def upB (r : R Bool) (ρ : List Sl) : RB := match r with
  | .ok d => .ok d ρ
  | .ex x => .ex x ρ
  | .st => .st
@[simp] theorem upB_ok (d : Bool) (ρ : List Sl) : upB (.ok d) ρ = .ok d ρ := rfl
theorem Qk.tk {r : R Bool} (S : Stt K θ G H σ ρ Ws) (h : Qk K W σ θ G H Ws (upB r ρ) Q) : Tk K W σ θ G ρ Ws H r Q := by
  refine ⟨S, ?_⟩
  cases r with
  | ok d => exact fun G' H' e => h G' H' Ws (Fr.of e) (S.ext e)
  | ex x => exact fun v G' H' e z => h v G' H' Ws (Fr.of e) (S.ext e) z
  | st => exact h
end
def liftB (g : List Sl → R Bool) (ρ : List Sl) : RB := upB (g ρ) ρ
def q1 (f : D → R Bool) (g : List Sl → RE) (ρ : List Sl) : RB := (g ρ).bindB fun d ρ1 => upB (f d) ρ1
def qAnd (f g : List Sl → RB) (ρ : List Sl) : RB := (f ρ).bind fun c ρ1 => if c then g ρ1 else .ok false ρ1
def qOr (f g : List Sl → RB) (ρ : List Sl) : RB := (f ρ).bind fun c ρ1 => if c then .ok true ρ1 else g ρ1
def qNot (f : List Sl → RB) (ρ : List Sl) : RB := (f ρ).bind fun c ρ1 => .ok (!c) ρ1
def eIf (c : List Sl → RB) (f g : List Sl → RE) (ρ : List Sl) : RE := (c ρ).bindE fun b ρ1 => if b then f ρ1 else g ρ1
def sIfE (c : List Sl → RB) (f g : List Sl → RS) (ρ : List Sl) : RS := (c ρ).seq fun b ρ1 => if b then f ρ1 else g ρ1
section
variable {X : Cx} {W : WX} {e a b c : Expr} {g : List Sl → RE} {fa fb : List Sl → RE} {pos : Pos} {f f' t : List Sl → RB} {m m' : List Sl → RS} {rest : List Expr}
theorem DT.q {g : List Sl → R Bool} (h : DT X W e g) : DQT X W e (liftB g) := ⟨PT.conseq h.run fun σ H Q ⟨θ, G, ρ, Ws, S, q⟩ => ⟨θ, G, ρ, Ws, Qk.tk S q⟩⟩
theorem DW.q {g : List Sl → R Bool} (h : DW X W e g) : DQW X W e (liftB g) := ⟨PW.conseq h.run fun σ H Q ⟨θ, G, ρ, Ws, S, q⟩ => ⟨θ, G, ρ, Ws, Qk.tk S q⟩⟩
theorem DQW.qt (h : DQW X W e t) : DQT X W e t := ⟨h.run.pt⟩
theorem dq_val (h : DE X W e g) (he : ∀ whole, isTrue e X.env whole = (do let v ← whole; standAt e.pos; holding [v] (truthy v)) := by intro _; rfl) : DQT X W e (q1 asB g) :=
  ⟨PT.conseq (pt_val h.run he) fun σ H Q ⟨θ, G, ρ, Ws, S, q⟩ => ⟨θ, G, ρ, Ws, S, (Qk.ek q).imp fun v H1 ⟨d, ρ1, G1, W1, fr, S1, z, q1⟩ => by
    cases d with
    | bl b => cases z; exact ⟨_, rfl, Qk.val S1 q1⟩
    | _ => exact q1.elim⟩⟩
theorem dq_not (h : DQT X W a f) : DQT X W (.UnaryOp .Not a pos) (qNot f) :=
  ⟨PT.conseq (pt_not h.run) fun σ H Q ⟨θ, G, ρ, Ws, S, q⟩ => ⟨θ, G, ρ, Ws, S, q.bind.imp fun c H1 ⟨ρ1, G1, W1, fr, S1, q1⟩ => Qk.val S1 q1⟩⟩
theorem dqw_and1 (h : DQT X W a f) : DQW X W (.BoolOp .And [a] pos) f := ⟨pw_and1 h.run⟩
theorem dqw_or1 (h : DQT X W a f) : DQW X W (.BoolOp .Or [a] pos) f := ⟨pw_or1 h.run⟩
theorem dqw_and (h : DQT X W a f) (h' : DQW X W (.BoolOp .And (b :: rest) pos) f') : DQW X W (.BoolOp .And (a :: b :: rest) pos) (qAnd f f') :=
  ⟨PW.conseq (pw_and h.run h'.run) fun σ H Q ⟨θ, G, ρ, Ws, S, q⟩ => ⟨θ, G, ρ, Ws, S, q.bind.imp fun c H1 ⟨ρ1, G1, W1, fr, S1, q1⟩ => by
    cases c with
    | true => exact iteT ⟨θ, G1, ρ1, W1, S1, q1⟩
    | false => exact iteF (Qk.val S1 q1)⟩⟩
theorem dqw_or (h : DQT X W a f) (h' : DQW X W (.BoolOp .Or (b :: rest) pos) f') : DQW X W (.BoolOp .Or (a :: b :: rest) pos) (qOr f f') :=
  ⟨PW.conseq (pw_or h.run h'.run) fun σ H Q ⟨θ, G, ρ, Ws, S, q⟩ => ⟨θ, G, ρ, Ws, S, q.bind.imp fun c H1 ⟨ρ1, G1, W1, fr, S1, q1⟩ => by
    cases c with
    | true => exact iteT (Qk.val S1 q1)
    | false => exact iteF ⟨θ, G1, ρ1, W1, S1, q1⟩⟩⟩
theorem de_if (hc : DQT X W c t) (ha : DE X W a fa) (hb : DE X W b fb) : DE X W (.IfExp c a b pos) (eIf t fa fb) :=
  ⟨PE.conseq (pe_ifExp hc.run ha.run hb.run) fun σ H Q ⟨θ, G, ρ, Ws, S, q⟩ => ⟨θ, G, ρ, Ws, S, (Ek.qk q).imp fun c H1 ⟨ρ1, G1, W1, fr, S1, q1⟩ => by
    cases c with
    | true => exact iteT ⟨θ, G1, ρ1, W1, S1, q1⟩
    | false => exact iteF ⟨θ, G1, ρ1, W1, S1, q1⟩⟩⟩
theorem ds_ifE {a b : List Stmt} (hc : DQT X W c t) (ha : DSs X W a m) (hb : DSs X W b m') : DS X W (.If c a b pos) (sIfE t m m') :=
  ⟨PS.conseq (ps_if hc.run ha.run hb.run) fun E σ H ⟨θ, G, ρ, Ws, S, q⟩ => ⟨θ, G, ρ, Ws, S, (Fin.qk q).imp fun c H1 ⟨ρ1, G1, W1, fr, S1, q1⟩ => by
    cases c with
    | true => exact iteT ⟨θ, G1, ρ1, W1, S1, q1⟩
    | false => exact iteF ⟨θ, G1, ρ1, W1, S1, q1⟩⟩⟩
/-- and, or as values, parts that change the state -/
def eAnd (f g : List Sl → RE) (ρ : List Sl) : RE := (f ρ).bind fun x ρ1 => match x with
  | .bl true => g ρ1
  | .bl false => .ok (.bl false) ρ1
  | _ => .st
def eOr (f g : List Sl → RE) (ρ : List Sl) : RE := (f ρ).bind fun x ρ1 => match x with
  | .bl true => .ok (.bl true) ρ1
  | .bl false => g ρ1
  | _ => .st
theorem de_one {op} (h : DE X W a g) : DE X W (.BoolOp op [a] pos) g := ⟨pe_one h.run⟩
theorem de_and (ha : DE X W a fa) (hb : DE X W (.BoolOp .And (b :: rest) pos) fb) : DE X W (.BoolOp .And (a :: b :: rest) pos) (eAnd fa fb) :=
  ⟨PE.conseq (pe_and ha.run hb.run) fun σ H Q ⟨θ, G, ρ, Ws, S, q⟩ => ⟨θ, G, ρ, Ws, S, q.bind.imp fun x H1 ⟨d, ρ1, G1, W1, fr, S1, z, q1⟩ => by
    cases d with
    | bl b =>
      cases z
      cases b with
      | true => exact ⟨true, rfl, iteT ⟨θ, G1, ρ1, W1, S1, q1⟩⟩
      | false => exact ⟨false, rfl, iteF (q1 _ G1 _ W1 Fr.refl S1 (.bl false))⟩
    | _ => exact q1.elim⟩⟩
theorem de_or (ha : DE X W a fa) (hb : DE X W (.BoolOp .Or (b :: rest) pos) fb) : DE X W (.BoolOp .Or (a :: b :: rest) pos) (eOr fa fb) :=
  ⟨PE.conseq (pe_or ha.run hb.run) fun σ H Q ⟨θ, G, ρ, Ws, S, q⟩ => ⟨θ, G, ρ, Ws, S, q.bind.imp fun x H1 ⟨d, ρ1, G1, W1, fr, S1, z, q1⟩ => by
    cases d with
    | bl b =>
      cases z
      cases b with
      | true => exact ⟨true, rfl, iteT (q1 _ G1 _ W1 Fr.refl S1 (.bl true))⟩
      | false => exact ⟨false, rfl, iteF ⟨θ, G1, ρ1, W1, S1, q1⟩⟩
    | _ => exact q1.elim⟩⟩
/-! ### name op= e -/
def sAug (f : D → D → R D) (i : Nat) (g : List Sl → RE) (ρ : List Sl) : RS := match ρ[i]? with
  | some (.val d) => (g ρ).seq fun y ρ1 => (up (f d y) ρ1).seq fun z ρ2 => if i < ρ2.length then .ok .nx (ρ2.set i (.val z)) else .st
  | _ => .st
theorem ds_aug {i : Nat} {ti : TIp} {fo : D → D → R D} {s : Stmt} (ho : Op2 X.K Zh Zh ti fo) (he : DE X W e g) (hps : ∀ te, PE X e te → PS X s (tAug i te ti)) : DS X W s (sAug fo i g) :=
  ⟨PS.conseq (hps _ he.run) fun E σ H ⟨θ, G, ρ, Ws, S, q⟩ => by
    unfold sAug at q
    split at q
    · rename_i d hd
      obtain ⟨v, h1, h2⟩ := S.sts.val_at hd
      refine ⟨v, h1, θ, G, ρ, Ws, S, (Fin.ek q).imp fun y H1 ⟨dy, ρ1, G1, W1, fr, S1, z, q1⟩ => ?_⟩
      refine ho (W := W) (σ := σ) (θ := θ) (G := G1) (ρ := ρ1) (Ws := W1) (.inl (h2.mono fr.g)) (.inl z) ?_
      refine Ek.pk S1 ((Fin.ek q1).imp fun u H2 ⟨du, ρ2, G2, W2, fr2, S2, z2, q2⟩ => ?_)
      split at q2
      · rename_i hi
        obtain ⟨W3, S3, sb⟩ := S2.put hi z2
        exact q2 _ G2 _ W3 (Fr.refl.less fun a ha => sb.subset ha) S3
      · exact q2.elim
    · exact q.elim⟩
theorem oi_int {K : Fg} {g : Int → Int → Int} : Op2 K Zh Zh (ipI g) (fun x y => match x, y with
    | .int i, .int j => .ok (.int (g i j))
    | _, _ => .st) := od_int20
def imulD : D → D → R D := fun x y => match x, y with
  | .int i, .int j => if iMul i j then .ok (.int (i * j)) else .st
  | _, _ => .st

/-! ### for over a range whose ends change the state -/
inductive RI where
  | ok (items : List D) (ρ : List Sl) | ex (x : Exn) (ρ : List Sl) | st
def RE.bindI (r : RE) (f : D → List Sl → RI) : RI := match r with
  | .ok b ρ => f b ρ
  | .ex x ρ => .ex x ρ
  | .st => .st
@[simp] theorem RE.bindI_ok (d : D) (ρ : List Sl) (f : D → List Sl → RI) : (RE.ok d ρ).bindI f = f d ρ := rfl
def Jk (K : Fg) (W : WX) (σ : L2.St) (θ : Nat → Addr) (G H : Hp) (Ws : List Addr) (r : RI) (Rr : It → Hp → Prop) : Prop := match r with
  | .ok items ρ' => ∀ J G' H' W', Fr G H Ws G' H' W' → Stt K θ G' H' σ ρ' W' → GoesD K Rp J G' items → Rr J H'
  | .ex x ρ' => ∀ d G' H' W', Fr G H Ws G' H' W' → Stt K θ G' H' σ ρ' W' → XkOk K G' H' x d → W (.ref x.cls) d σ H'
  | .st => False
def tJ' (K : Fg) (W : WX) (f : List Sl → RI) : TI := fun σ H Rr => ∃ θ G ρ Ws, Stt K θ G H σ ρ Ws ∧ Jk K W σ θ G H Ws (f ρ) Rr
structure DJ (X : Cx) (W : WX) (tg iter : Expr) (f : List Sl → RI) : Prop where
  run : PI X tg iter (tJ' X.K W f)
def jRange1 (g : List Sl → RE) (ρ : List Sl) : RI := (g ρ).bindI fun d ρ1 => match d with
  | .int j => if ok62 j then .ok (rangeD 0 j) ρ1 else .st
  | _ => .st
theorem Jk.ek {K : Fg} {σ : L2.St} {θ : Nat → Addr} {G H : Hp} {Ws : List Addr} {r : RE} {k : D → List Sl → RI} {Rr : It → Hp → Prop} (h : Jk K W σ θ G H Ws (r.bindI k) Rr) : Ek K W σ θ G H Ws r (fun v H1 => ∃ d ρ1 G1 W1, Fr G H Ws G1 H1 W1 ∧ Stt K θ G1 H1 σ ρ1 W1 ∧ Rp K G1 v d ∧ Jk K W σ θ G1 H1 W1 (k d ρ1) Rr) := by
  cases r with
  | ok d ρ' =>
    intro v G' H' W' e' s z
    refine ⟨d, ρ', G', W', e', s, z, ?_⟩
    have h : Jk K W σ θ G H Ws (k d ρ') Rr := h
    cases hk : k d ρ' with
    | ok items ρ2 => rw [hk] at h; exact fun J G2 H2 W2 e2 => h J G2 H2 W2 (e'.trans e2)
    | ex x ρ2 => rw [hk] at h; exact fun d G2 H2 W2 e2 => h d G2 H2 W2 (e'.trans e2)
    | st => rw [hk] at h; exact h
  | ex x ρ' => exact h
  | st => exact h
theorem dj_range1 {tg : Expr} {p pos : Pos} (hg : Gl X "range") (hm : X.mg "range" = none) (h : DE X W a g) (hs : starEach [a] X.env = (false, eval a X.env) :: starEach [] X.env := by rfl) (hs' : starEach [a] X.env = [(false, eval a X.env)] := by rfl) :
    DJ X W tg (.Call (.Name "range" p) [a] [] pos) (jRange1 g) := ⟨PI.conseq (pi_range1 hg hm (pa_cons h.run pa_nil hs) hs') fun σ H R ⟨θ, G, ρ, Ws, S, q⟩ => ⟨θ, G, ρ, Ws, S, (Jk.ek q).imp fun v H1 ⟨d, ρ1, G1, W1, fr, S1, z, q1⟩ => by
  cases z with
  | int j =>
    dsimp only at q1
    split at q1
    · rename_i hj
      obtain ⟨h1, h2⟩ := ok62_of hj
      refine ⟨j, rfl, h1, h2, q1 _ G1 _ W1 Fr.refl S1 ?_⟩
      have := goes_range (K := X.K) (G := G1) 0 j.toNat
      unfold rangeD
      rw [Int.sub_zero]
      exact this
    · exact q1.elim
  | _ => exact q1.elim⟩⟩
def sForE (src : List Sl → RI) (tf : D → List Sl → Option (List Sl)) (body : List Sl → RS) (ρ : List Sl) : RS := match src ρ with
  | .ok items ρ1 => forGo tf body items ρ1
  | .ex x ρ1 => .ex x ρ1
  | .st => .st
theorem ds_forE {tg iter : Expr} {body : List Stmt} {src : List Sl → RI} {gg : TG} {vs : List Nat} {tf : D → List Sl → Option (List Sl)} (hp : PassesOwn (model X.prog X.w) X.A X.env X.xe) (hc : X.calm = true) (hi : DJ X W tg iter src) (hpg : PG X tg gg) (hg : TgOk X.K Rp gg vs tf)
    (hb : DSs X W body m) (hs : ∀ x, foldedSetIterable iter X.env x = pure x := by intro _; rfl) : DS X W (.For tg iter body [] pos) (sForE src tf m) :=
  ⟨PS.conseq (ps_for hp hc hi.run hpg hb.run hs) fun E σ H ⟨θ, G, ρ, Ws, S, q⟩ => ⟨θ, G, ρ, Ws, S, by
    unfold sForE at q
    cases hv : src ρ with
    | st => rw [hv] at q; exact q
    | ex x ρ1 => rw [hv] at q; exact fun d G' H' W' fr S' z => q d σ G' H' W' fr S' z
    | ok items ρ1 =>
      rw [hv] at q
      exact fun J G' H' W' fr S' hJ => for_turns hg S' hJ (Fin.fr q fr)⟩⟩
end
end DL

set_option Elab.async false
set_option linter.all false
set_option maxRecDepth 100000
set_option maxHeartbeats 2000000
/-! The data layer, tenth part: tuples turned round, methods, displays. -/
namespace DL
open PySem PySem.Spec PyProof.Rows L2

/-! ### xs[::-1] -/
section
variable {prog : Program} {w : World} {A : Around} {E : Value → Shared → Prop} {s : Shared}
theorem fm_congr {α β : Type} {f g : α → Option β} : ∀ l : List α, (∀ k ∈ l, f k = g k) → l.filterMap f = l.filterMap g
  | [], _ => rfl
  | a :: l, h => by rw [List.filterMap_cons, List.filterMap_cons, h a List.mem_cons_self, fm_congr l fun k hk => h k (List.mem_cons_of_mem _ hk)]
theorem rev_pick (xs : Array Value) : ((List.range xs.size).filterMap fun (k : Nat) => xs[(((xs.size : Int) - 1) + (k : Int) * -1).toNat]?).toArray = xs.toList.reverse.toArray := by
  congr 1
  apply List.ext_getElem?
  intro i
  have e : ∀ k ∈ List.range xs.size, xs[(((xs.size : Int) - 1) + (k : Int) * -1).toNat]? = some (xs.toList.reverse.getD k default) := by
    intro k hk
    have hk : k < xs.size := by simpa using hk
    have e1 : (((xs.size : Int) - 1) + (k : Int) * -1).toNat = xs.size - 1 - k := by omega
    rw [e1, Array.getElem?_eq_getElem (by omega), List.getD_eq_getElem?_getD, List.getElem?_reverse (by simpa using hk)]
    simp
    rw [Array.getElem?_eq_getElem (by omega)]
    simp
  have e2 : (List.range xs.size).filterMap (fun (k : Nat) => xs[(((xs.size : Int) - 1) + (k : Int) * -1).toNat]?) = (List.range xs.size).map fun k => xs.toList.reverse.getD k default := by
    rw [← List.filterMap_eq_map]
    exact fm_congr _ fun k hk => e k hk
  rw [e2]
  by_cases hi : i < xs.size
  · rw [List.getElem?_map, List.getElem?_range hi]
    simp only [Option.map_some]
    have hi' : i < xs.toList.reverse.length := by simpa using hi
    rw [List.getElem?_eq_getElem hi', List.getD_eq_getElem?_getD, List.getElem?_eq_getElem hi']
    rfl
  · rw [List.getElem?_eq_none (by simpa using hi), List.getElem?_eq_none (by simpa using hi)]
theorem sliceApplied_rev {sl : Addr} {n : Nat} {t : Tok} {Q : Int × Int × Nat → Shared → Prop} (hs : s.heap.IsSliceOf sl .none .none (.int (-1) t)) (h : Q ((n : Int) - 1, -1, n) s) : wpAny (model prog w) A (Builtin.Slice.sliceApplied (.ref sl) (pure (n : Int))) Q E s := by
  obtain ⟨os, hos, hcs, hds⟩ := id hs
  unfold Builtin.Slice.sliceApplied Builtin.Slice.sliceFields
  refine wpAny_bind (wpAny_bind (wpAny_field hos hds (x := .none) rfl (wpAny_bind (wpAny_field hos hds (x := .none) rfl (wpAny_bind (wpAny_field hos hds (x := .int (-1) t) rfl (wpAny_pure ?_)))))))
  refine wpAny_bind (HT.slicePart_ (.int (-1) t) ?_)
  show wpAny _ _ (if ((-1 : Int) == 0) = true then _ else _) _ _ s
  rw [if_neg (by decide)]
  refine wpAny_bind (HT.slicePart_ .none (wpAny_bind (HT.slicePart_ .none (wpAny_bind (wpAny_pure ?_)))))
  have e1 : Builtin.Slice.sliceAdjust none none (-1) (n : Int) = ((n : Int) - 1, -1) := by simp [Builtin.Slice.sliceAdjust]
  show wpAny _ _ (match Builtin.Slice.sliceAdjust none none (-1) (n : Int) with | (lo, hi) => pure (lo, (-1 : Int), Builtin.Slice.slicePlaces lo hi (-1))) _ _ s
  rw [e1]
  have e2 : Builtin.Slice.slicePlaces ((n : Int) - 1) (-1) (-1) = n := by
    unfold Builtin.Slice.slicePlaces
    rw [if_neg (by decide)]
    split <;> simp <;> omega
  show wpAny _ _ (pure ((n : Int) - 1, (-1 : Int), Builtin.Slice.slicePlaces ((n : Int) - 1) (-1) (-1))) _ _ s
  rw [e2]
  exact wpAny_pure h
theorem getItem_tuple_rev {tt sl : Addr} {items : Array Value} {t : Tok} {Q : Value → Shared → Prop} (ht : IsTup s.heap tt items) (hs : s.heap.IsSliceOf sl .none .none (.int (-1) t))
    (h : Q (.ref s.heap.objs.size) { s with heap := s.heap.push { cls := .type "tuple", data := .seq items.toList.reverse.toArray } }) (hsz : items.size ≤ sizeLine) : wpAny (model prog w) A (getItem (.ref tt) (.ref sl)) Q E s := by
  have hok : sizeOk (.seq items.toList.reverse.toArray) := by
    show items.toList.reverse.toArray.size ≤ sizeLine
    simpa using hsz
  obtain ⟨os, hos, hcs, hds⟩ := id hs
  have hTs : s.TypeIs (.ref sl) "slice" := ⟨os, hos, hcs⟩
  unfold getItem
  try with_reducible refine wpAny_holding ?_
  first | refine wpAny_bind (wpAny_pure ?_) | skip
  refine wpAny_bind (wpAny_sequenceKey ht.typeIs (by decide) ?_)
  refine wpAny_bind (wpAny_callSpecial?_slot (name := Str.ofString "__getitem__") ht.typeIs PyProof.Rows.slot_tuple_getitem
    (wpAny_call_entry PyProof.Rows.slot_tuple_getitem ht.typeIs entry_tuple_getitem ?_ (args_tuple_getitem _ _)))
  show wpAny _ _ (Builtin.Tuple.tupleItemsOf (.ref tt) >>= _) _ _ s
  refine wpAny_bind (tupleItemsOf_ ht ?_)
  refine wpAny_bind (wpAny_typeOf hTs ?_)
  rw [if_pos (by decide)]
  refine wpAny_bind (sliceApplied_rev hs ?_)
  have hno : ¬ ((((items.size : Int) - 1) == 0 && (-1 : Int) == 1 && items.size == items.size) = true) := by
    intro q
    rw [Bool.and_eq_true, Bool.and_eq_true] at q
    exact absurd (eq_of_beq q.1.2) (by decide)
  show wpAny _ _ (if (((items.size : Int) - 1) == 0 && (-1 : Int) == 1 && items.size == items.size) = true then _ else _) _ _ s
  rw [if_neg hno, rev_pick]
  first
    | exact wpAny_bind (m := Builtin.Tuple.tupleExact _) (wpAny_newObj_type (wpAny_pure ⟨_, rfl, wpAny_pure h⟩) hok)
    | exact wpAny_bind (m := Builtin.Tuple.tupleExact _) (wpAny_newObj_type (wpAny_bind (wpAny_pure (wpAny_pure ⟨_, rfl, wpAny_pure h⟩))) hok)
    | exact wpAny_bind (wpAny_bind (m := Builtin.Tuple.tupleExact _) (wpAny_newObj_type (wpAny_pure (wpAny_pure ⟨_, rfl, wpAny_pure h⟩)) hok))
    | exact wpAny_bind (wpAny_bind (m := Builtin.Tuple.tupleExact _) (wpAny_newObj_type (wpAny_pure ⟨_, rfl, wpAny_pure h⟩) hok))
end
section
variable {X : Cx}
def rRev (K : Fg) : V → Hp → VK → Prop := fun x H Q => (∃ a xs, x = .ref a ∧ SqL K H a xs ∧ ∀ p, H p = none → Q (.ref p) (upd H p (.lst xs.reverse))) ∨ (∃ a xs, x = .ref a ∧ SqT K H a xs ∧ ∀ p o, H p = none → o.dict = none → Q (.ref p) (upd H p (.frz o (.tup xs.reverse))))
theorem pe_rev {e : Expr} {te : TE} {k : Nat} {p1 p2 p3 pos : Pos} (he : PE X e te) : PE X (.Subscript e (.Slice none none (some (.UnaryOp .USub (.Constant (.int 1) k p1) p2)) p3) pos) (fun σ H Q => te σ H fun x H1 => rRev X.K x H1 Q) := by
  refine ⟨fun pins s σ H Q I h => ?_⟩
  refine Subscript_ (thn (he.run pins s σ H _ I h) fun v s1 ⟨x, H1, I1, r1, q1⟩ => ?_)
  have hst : PO X (some (.UnaryOp .USub (.Constant (.int 1) k p1) p2)) (tPart (tUn (rU fun i => .int (-i)) (tC (.int 1)))) := po_some (pe_un un_neg pe_int)
  refine wpAny_Slice (thn (po_none.run pins s1 σ H1 (fun o H2 => o = none ∧ H2 = H1) I1 ⟨rfl, rfl⟩) fun vl s2 ⟨l, H2, I2, pl, el, e2⟩ => ?_)
  subst el e2
  refine thn (po_none.run pins s2 σ H2 (fun o H3 => o = none ∧ H3 = H2) I2 ⟨rfl, rfl⟩) fun vu s3 ⟨u, H3, I3, pu, eu, e3⟩ => ?_
  subst eu e3
  refine thn (hst.run pins s3 σ H3 (fun o H4 => o = some (-1) ∧ H4 = H3) I3 ⟨1, rfl, -1, rfl, rfl, rfl⟩) fun vs s4 ⟨o, H4, I4, ps, eo, e4⟩ => ?_
  subst eo e4
  have I5 : Inv X pins σ H4 { s4 with heap := s4.heap.push { cls := .type "slice", data := .fields #[vl, vu, vs] } } := I4.kept (t' := s4.toks) fun b ob q => Heap.get?_push_of_some _ q
  rcases q1 with ⟨a, xs, ex, hx, q⟩ | ⟨a, xs, ex, hx, q⟩
  · subst ex
    cases r1
    obtain ⟨its, r, ht, hz⟩ := I5.list hx
    have hlen := r.length
    show wpAny (model X.prog X.w) X.A (subscriptTail e (.Slice none none (some (.UnaryOp .USub (.Constant (.int 1) k p1) p2)) p3) (.ref a) (.ref s4.heap.objs.size)) (EP X pins σ Q) X.xe { s4 with heap := s4.heap.push { cls := .type "slice", data := .fields #[vl, vu, vs] } }
    refine tail_any (ops := [.ref a, .ref s4.heap.objs.size]) ht.isList.typeIs (PySem.slot_list_getitem.lookup) ?_ (by with_unfolding_all rfl)
    refine wpAny_getItem_list_slice ht.isList (Heap.IsSliceOf.new _ vl vu vs) pl pu ps (by decide) ?_ (by rw [List.size_toArray]; omega)
    rw [PySem.W.krv_pick]
    refine ⟨.ref _, _, I5.laid (t' := s4.toks) (o := .lst xs.reverse) (fun b ob q => Heap.get?_push_of_some _ q) (Nat.le_refl _) ?_, rfl, q _ (I5.hok.fresh (Nat.le_refl _))⟩
    exact ⟨by rw [List.length_reverse]; exact hz, _, 0, r.reverse, Heap.get?_push_size _ rfl⟩
  · subst ex
    cases r1
    obtain ⟨its, r, ht, hz⟩ := I5.tuple hx
    have hlen := r.length
    cases pl
    cases pu
    cases ps
    refine tail_any (ops := [.ref a, .ref s4.heap.objs.size]) ht.typeIs (PyProof.Rows.slot_tuple_getitem.lookup) ?_ (by with_unfolding_all rfl)
    refine getItem_tuple_rev ht (Heap.IsSliceOf.new _ _ _ _) ?_ (by rw [List.size_toArray]; omega)
    exact ⟨.ref _, _, tup_laid (t' := s4.toks) I5 (by rw [List.length_reverse]; exact hz) r.reverse, rfl, q _ _ (I5.hok.fresh (Nat.le_refl _)) rfl⟩
def revD : D → R D
  | .lst xs => .ok (.lst xs.reverse)
  | .tup xs => .ok (.tup xs.reverse)
  | _ => .st
theorem od_rev {K : Fg} : Op1 K Zh (rRev K) revD := by
  intro W σ θ G ρ Ws H x a Q hx q
  have s := q.same
  unfold revD at q
  split at q
  · obtain ⟨a, vs, rfl, h1, r1⟩ := hx.lst s
    exact .inl ⟨a, vs, rfl, SqL.of h1, fun p hp => q.new hp (new_lst hp s r1.reverse)⟩
  · obtain ⟨a, vs, rfl, h1, r1⟩ := hx.tup s
    exact .inr ⟨a, vs, rfl, h1.t, fun p o hp ho => q.new hp (new_tup hp ho s r1.reverse)⟩
  · exact q.no
end

/-! ### x.index(y) -/
def strIx (ys : List Str) (z : Str) : Option Nat := ys.findIdx? fun y => y == z
def indexD (x y : D) : R D := match x with
  | .tup xs => (match strsO xs, y with
    | some ys, .str z => (match strIx ys z with | some j => .ok (.int (j : Nat)) | none => .st)
    | _, _ => .st)
  | .lst xs => if (D.lst xs).sh && y.sh then (match firstEq xs y with | some j => .ok (.int (j : Nat)) | none => .st) else .st
  | _ => .st
def ixKind : D → Bool
  | .tup xs => (strsO xs).isSome
  | .lst _ => true
  | _ => false
def pIndex (ga gb : List Sl → R D) (ρ : List Sl) : R D := (ga ρ).bind fun x => if ixKind x then (gb ρ).bind fun y => indexD x y else .st
section
variable {X : Cx} {W : WX} {o e : Expr} {to te : TE} {apos cpos : Pos} {ga gb : List Sl → R D} {Za : ZK} {c : Expr}
def tIxOf (K : Fg) (to te : TE) : TE := fun σ H Q => to σ H fun x H1 => (∃ a, ∃ ys : List Str, x = .ref a ∧ SqX K H1 a (ys.map V.str) ∧ te σ H1 fun y H2 => ∃ z j, [y] = [.str z] ∧ SqX K H2 a (ys.map V.str) ∧ ys[j]? = some z ∧ (∀ m, m < j → ys[m]? ≠ some z) ∧ Q (.int (j : Nat)) H2) ∨
  (∃ a vs, x = .ref a ∧ SqL K H1 a vs ∧ te σ H1 fun y H2 => rIndexD K x [y] H2 Q)
theorem pe_indexOf (hu : X.A.units + 65 < cLine) (ho : PE X o to) (he : PE X e te) (hbase : attributeBase o "index" X.env (eval o X.env) = eval o X.env := by rfl)
    (hfew : ((backTo cpos (starEach [e] X.env)).all (fun x => !x.1) && (backToKw cpos (keywordEach [] X.env)).all (fun x => x.1.isSome)
      && decide ([e].length + ([] : List Keyword).length + (if ([] : List Keyword).isEmpty then 0 else 1) < 30)) = true := by rfl)
    (hline : (apos.endLine == cpos.line) = true := by rfl) (hs : starEach [e] X.env = (false, eval e X.env) :: starEach [] X.env := by rfl) (hplain : (backTo cpos (starEach [] X.env)).any (·.1) = false := by rfl) :
    PE X (.Call (.Attribute o "index" apos) [e] [] cpos) (tIxOf X.K to te) := by
  refine ⟨fun pins s σ H Q I h => ?_⟩
  refine wpAny_Call_method_late hbase hfew hline rfl (thn (ho.run pins s σ H _ I h) fun v s1 hv => ?_)
  obtain ⟨x, H1, I1, r1, q1⟩ := hv
  rcases q1 with ⟨a, ys, ea, kd, q1⟩ | ⟨a, vs, ea, kd, q1⟩
  · subst ea
    cases r1
    obtain ⟨ob, e1, e2, e3⟩ := kd.plain I1
    refine ⟨"tuple", "tuple.index", PySem.F.plainAttrs_tuple, PySem.F.slot_tuple_index, PySem.F.type_tuple_index, ⟨ob, e1, e3⟩, fun a' z => by cases z; exact ⟨ob, e1, e2⟩, ?_⟩
    have hA := (pa_cons he pa_nil hs).run cpos pins s1 σ H1 (fun xs H2 => ∃ z j, xs = [.str z] ∧ SqX X.K H2 a (ys.map V.str) ∧ ys[j]? = some z ∧ (∀ m, m < j → ys[m]? ≠ some z) ∧ Q (.int (j : Nat)) H2) I1 q1
    rw [hs] at hA ⊢
    refine Calls.callWith_builtin (by show (false || (backTo cpos (starEach [] X.env)).any (·.1)) = false; rw [hplain] <;> rfl) (Calls.evalArgs_plain ?_)
    exact thn hA fun us s2 ⟨ws, H2, I2, r2, z, j, ew, hx, q2⟩ => mt_tup_index pins s2 σ H2 (.ref a) ws (.ref a) us Q I2 rfl r2 ⟨a, ys, z, j, rfl, ew, hx.t, q2⟩
  · subst ea
    obtain ⟨h1, h2⟩ := tyV_is (T := "list") I1 r1 (.inl ⟨rfl, _, kd⟩)
    refine ⟨"list", "list.index", PySem.F.plainAttrs_list, PySem.F.slot_list_index, PySem.F.type_list_index, h1, h2, ?_⟩
    have hA := (pa_cons he pa_nil hs).run cpos pins s1 σ H1 (fun xs H2 => rIndexD X.K (.ref a) xs H2 Q) I1 q1
    rw [hs] at hA ⊢
    refine Calls.callWith_builtin (by show (false || (backTo cpos (starEach [] X.env)).any (·.1)) = false; rw [hplain] <;> rfl) (Calls.evalArgs_plain ?_)
    exact thn hA fun us s2 ⟨ws, H2, I2, r2, q2⟩ => mt_indexD hu pins s2 σ H2 (.ref a) ws _ us Q I2 r1 r2 q2
theorem strIx_some {ys : List Str} {z : Str} {j : Nat} (h : strIx ys z = some j) : ys[j]? = some z ∧ ∀ m, m < j → ys[m]? ≠ some z := by
  unfold strIx at h
  rw [List.findIdx?_eq_some_iff_getElem] at h
  obtain ⟨hj, h1, h2⟩ := h
  refine ⟨by rw [List.getElem?_eq_getElem hj, eq_of_beq h1], fun m hm e => ?_⟩
  obtain ⟨hm', e⟩ := List.getElem?_eq_some_iff.mp e
  exact h2 m hm (by rw [e]; exact beq_self_eq_true z)
theorem firstEq_some {xs : List D} {y : D} {j : Nat} (h : firstEq xs y = some j) : ∃ x, xs[j]? = some x ∧ PyData.eqv x.py y.py = true ∧ ∀ m z, m < j → (pyA xs)[m]? = some z → PyData.eqv z y.py = false := by
  unfold firstEq at h
  rw [List.findIdx?_eq_some_iff_getElem] at h
  obtain ⟨hj, h1, h2⟩ := h
  refine ⟨xs[j], List.getElem?_eq_getElem hj, h1, fun m z hm e => ?_⟩
  rw [pyA_map, List.getElem?_map] at e
  have hm' : m < xs.length := by omega
  rw [List.getElem?_eq_getElem hm'] at e
  cases e
  simpa using h2 m hm
theorem dp_indexOf [ZOk Za] (hu : X.A.units + 65 < cLine) (ha : DR X W o ga) (hb : DZ Za X W e gb) (hpe : ∀ to te, PE X o to → PE X e te → PE X c (tIxOf X.K to te)) : DP X W c (pIndex ga gb) :=
  ⟨PE.conseq (hpe _ _ ha.run hb.dirty.run) fun σ H Q ⟨θ, G, ρ, Ws, q⟩ => ⟨θ, G, ρ, Ws, (q.bind (Za := Zd)).imp fun x H1 ⟨d, G1, _, e1, z, q1⟩ => by
    split at q1
    · rename_i hk
      unfold ixKind at hk
      cases z with
      | @tup a vs ds hx r =>
        simp only at hk
        obtain ⟨ys, hy⟩ := Option.isSome_iff_exists.mp hk
        have e := strs_eq hy
        subst e
        rw [r.strs] at hx
        refine .inl ⟨a, ys, rfl, hx, θ, G1, ρ, Ws, (q1.bind (Za := Zd)).imp fun y H2 ⟨d2, G2, _, e2, z2, q2⟩ => ?_⟩
        unfold indexD at q2
        dsimp only at q2
        rw [strs_map] at q2
        cases z2 with
        | str zz =>
          dsimp only at q2
          split at q2
          · rename_i j hj
            obtain ⟨j1, j2⟩ := strIx_some hj
            exact ⟨zz, j, rfl, hx.mono e2.h, j1, j2, q2.val (.int _)⟩
          · exact q2.no
        | _ => exact q2.no
      | @lst a vs ds hx r =>
        refine .inr ⟨a, vs, rfl, SqL.of hx, θ, G1, ρ, Ws, (q1.bind (Za := Zd)).imp fun y H2 ⟨d2, G2, _, e2, z2, q2⟩ => ?_⟩
        unfold indexD at q2
        dsimp only at q2
        split at q2
        · rename_i hsh
          rw [Bool.and_eq_true] at hsh
          split at q2
          · rename_i j hj
            obtain ⟨x, hx1, hx2, hx3⟩ := firstEq_some hj
            obtain ⟨d1, s1⟩ := sh_dp (Rp.lst (e2.h _ _ hx) (r.mono e2.h)) hsh.1
            obtain ⟨d3, s3⟩ := sh_dp z2 hsh.2
            exact ⟨a, y, d2.py, pyA ds, j, x.py, rfl, rfl, by simpa [D.py] using d1, d3, by simpa [D.py] using s1, s3, by rw [pyA_map, List.getElem?_map, hx1]; rfl, hx2, hx3, q2.val (.int _)⟩
          · exact q2.no
        · exact q2.no
      | _ => cases hk
    · exact q1.no⟩⟩
end
end DL

set_option Elab.async false
set_option linter.all false
set_option maxRecDepth 100000
set_option maxHeartbeats 2000000
/-! The data layer, eleventh part: comparisons as tests, texts, displays, small built-ins. -/
namespace DL
open PySem PySem.Spec PyProof.Rows L2
section
variable {X : Cx} {W : WX} {e a b c : Expr} {fa fb fc : List Sl → R D} {ga gb : List Sl → RE} {pos : Pos} {Za Zb Zv : ZK}
theorem tT_val {K : Fg} {g : List Sl → R D} {σ : L2.St} {H : Hp} {Q : Bool → Hp → Prop} (h : tT K W (b1 asB g) σ H Q) : tZ Zc K W g σ H fun z H3 => ∃ k, z = .bl k ∧ Q k H3 := by
  obtain ⟨θ, G, ρ, Ws, q⟩ := h
  exact ⟨θ, G, ρ, Ws, (Tk.pk q).imp fun v H1 ⟨d, G1, _, e, z, q1⟩ => by
    cases d with
    | bl b => cases z; exact ⟨_, rfl, q1.val⟩
    | _ => exact q1.2.elim⟩
theorem tQ_val {K : Fg} {g : List Sl → RE} {σ : L2.St} {H : Hp} {Q : Bool → Hp → Prop} (h : tQ K W (q1 asB g) σ H Q) : tE K W g σ H fun z H3 => ∃ k, z = .bl k ∧ Q k H3 := by
  obtain ⟨θ, G, ρ, Ws, S, q⟩ := h
  exact ⟨θ, G, ρ, Ws, S, (Qk.ek q).imp fun v H1 ⟨d, ρ1, G1, W1, fr, S1, z, q1⟩ => by
    cases d with
    | bl b => cases z; exact ⟨_, rfl, Qk.val S1 q1⟩
    | _ => exact q1.elim⟩
theorem dt_cmp [ZOk Za] [ZOk Zb] {op : CmpOp} {r : R2} {f : D → D → R D} (ho : OpR X (compareOp op) r) (hd : Op2 X.K Za Zb r f) (ha : DZ Za X W a fa) (hb : DZ Zb X W b fb) (hm : behindInMarks op b = false) : DT X W (.Compare a [op] [b] pos) (b1 asB (p2 f fa fb)) :=
  ⟨PT.conseq (pt_cmpR ho ha.run hb.run hm) fun _ _ _ h => tZ_2 hd (tT_val h)⟩
theorem dq_cmp [ZOk Za] [ZOk Zb] {op : CmpOp} {r : R2} {f : D → D → R D} (ho : OpR X (compareOp op) r) (hd : Op2 X.K Za Zb r f) (ha : DE X W a ga) (hb : DE X W b gb) (hm : behindInMarks op b = false) : DQT X W (.Compare a [op] [b] pos) (q1 asB (e2 f ga gb)) :=
  ⟨PT.conseq (pt_cmpR ho ha.run hb.run hm) fun _ _ _ h => tE_2 hd (tQ_val h)⟩
/-- a op1 b op2 c -/
def pChain (f f' : D → D → R D) (ga gb gc : List Sl → R D) (ρ : List Sl) : R D := (ga ρ).bind fun x => (gb ρ).bind fun y => (f x y).bind fun z => match z with
  | .bl true => (gc ρ).bind fun w => f' y w
  | .bl false => .ok (.bl false)
  | _ => .st
theorem tZ_chain [ZOk Za] [ZOk Zb] [ZOk Zv] {K : Fg} {r r' : R2} {f f' : D → D → R D} (hd : Op2 K Za Zb r f) (hd' : Op2 K Zb Zv r' f') {σ H Q} (h : tZ Zc K W (pChain f f' fa fb fc) σ H Q) : tChain r r' (tZ Za K W fa) (tZ Zb K W fb) (tZ Zv K W fc) σ H Q := by
  obtain ⟨θ, G, ρ, Ws, q⟩ := h
  refine ⟨θ, G, ρ, Ws, (q.bind (Za := Za)).imp fun x H1 ⟨d, G1, _, e, z, q1⟩ => ⟨θ, G1, ρ, Ws, (q1.bind (Za := Zb)).imp fun y H2 ⟨d2, G2, _, e2, z2, q2⟩ => ?_⟩⟩
  refine hd (ZOk.ext e2 z) z2 ((q2.bind (Za := Zc)).imp fun u H3 ⟨d3, G3, _, e3, z3, q3⟩ => ?_)
  cases d3 with
  | bl k =>
    cases z3
    cases k with
    | true => exact ⟨true, rfl, iteT ⟨θ, G3, ρ, Ws, (q3.bind (Za := Zv)).imp fun w H4 ⟨d4, G4, _, e4, z4, q4⟩ => hd' (ZOk.ext e4 (ZOk.ext e3 z2)) z4 q4⟩⟩
    | false => exact ⟨false, rfl, iteF (q3.val (.bl false))⟩
  | _ => exact q3.no
theorem dp_chain [ZOk Za] [ZOk Zb] [ZOk Zv] {op op' : CmpOp} {r r' : R2} {f f' : D → D → R D} (ho : OpR X (compareOp op) r) (ho' : OpR X (compareOp op') r') (hd : Op2 X.K Za Zb r f) (hd' : Op2 X.K Zb Zv r' f') (ha : DZ Za X W a fa) (hb : DZ Zb X W b fb) (hc : DZ Zv X W c fc)
    (hm : lastMarks [op, op'] [b, c] = false := by with_unfolding_all rfl) : DP X W (.Compare a [op, op'] [b, c] pos) (pChain f f' fa fb fc) := ⟨PE.conseq (pe_chain ho ho' ha.run hb.run hc.run hm) fun _ _ _ h => tZ_chain hd hd' h⟩
theorem dt_chain [ZOk Za] [ZOk Zb] [ZOk Zv] {op op' : CmpOp} {r r' : R2} {f f' : D → D → R D} (ho : OpR X (compareOp op) r) (ho' : OpR X (compareOp op') r') (hd : Op2 X.K Za Zb r f) (hd' : Op2 X.K Zb Zv r' f') (ha : DZ Za X W a fa) (hb : DZ Zb X W b fb) (hc : DZ Zv X W c fc)
    (hm : lastMarks [op, op'] [b, c] = false := by with_unfolding_all rfl) : DT X W (.Compare a [op, op'] [b, c] pos) (b1 asB (pChain f f' fa fb fc)) := ⟨PT.conseq (pt_chain ho ho' ha.run hb.run hc.run hm) fun _ _ _ h => tZ_chain hd hd' (tT_val h)⟩

/-! ### texts -/
def joinD (x y : D) : R D := match x, y with
  | .str z, .lst xs => (match strsO xs with | some ys => if (ys.map (·.length)).sum + ys.length * z.length ≤ 16777216 then .ok (.str (Txt.join z ys)) else .st | none => .st)
  | .str z, .tup xs => (match strsO xs with | some ys => if (ys.map (·.length)).sum + ys.length * z.length ≤ 16777216 then .ok (.str (Txt.join z ys)) else .st | none => .st)
  | _, _ => .st
def splitD (x y : D) : R D := match x, y with
  | .str a, .str b => if (b.length == 0) = false ∧ a.length + 2 ≤ sizeLine then .ok (.lst ((Txt.split a b).map .str)) else .st
  | _, _ => .st
def isStr : D → Bool
  | .str _ => true
  | _ => false
/-- a text's method -/
def pM1 (f : D → D → R D) (ga gb : List Sl → R D) (ρ : List Sl) : R D := (ga ρ).bind fun x => if isStr x then (gb ρ).bind fun y => f x y else .st
theorem dp_m1 [ZOk Zb] {r : V → List V → Hp → VK → Prop} {f : D → D → R D} (hd : Op2 X.K Zc Zb (fun x y => r x [y]) f) (ha : DP X W a fa) (hb : DZ Zb X W b fb) (hpe : ∀ to te, PE X a to → PE X b te → PE X c (tM1 r to te)) : DP X W c (pM1 f fa fb) :=
  ⟨PE.conseq (hpe _ _ ha.run hb.run) fun σ H Q ⟨θ, G, ρ, Ws, q⟩ => ⟨θ, G, ρ, Ws, (q.bind (Za := Zc)).imp fun x H1 ⟨d, G1, _, e, z, q1⟩ => by
    split at q1
    · rename_i hs
      cases z with
      | str s => exact ⟨⟨s, rfl⟩, θ, G1, ρ, Ws, (q1.bind (Za := Zb)).imp fun y H2 ⟨d2, G2, _, e2, z2, q2⟩ => hd (.str s) z2 q2⟩
      | _ => cases hs
    · exact q1.no⟩⟩
theorem od_join {K : Fg} : Op2 K Zc Zh (fun x y H Q => ∃ a p, ∃ ys : List Str, x = .str a ∧ [y] = [V.ref p] ∧ (SqL K H p (ys.map V.str) ∨ SqT K H p (ys.map V.str)) ∧ (ys.map (·.length)).sum + ys.length * a.length ≤ 16777216 ∧ Q (.str (Txt.join a ys)) H) joinD := by
  intro W σ θ G ρ Ws H x y a b Q hx hy q
  have s := q.same
  unfold joinD at q
  split at q
  · split at q
    · split at q
      · rename_i ys e h
        cases hx
        obtain ⟨p, vs, rfl, h1, r1⟩ := hy.lst s
        rw [strs_eq e] at r1
        rw [r1.strs] at h1
        exact ⟨_, p, ys, rfl, rfl, .inl (SqL.of h1), h, q.val (.str _)⟩
      · exact q.no
    · exact q.no
  · split at q
    · split at q
      · rename_i ys e h
        cases hx
        obtain ⟨p, vs, rfl, h1, r1⟩ := hy.tup s
        rw [strs_eq e] at r1
        rw [r1.strs] at h1
        exact ⟨_, p, ys, rfl, rfl, .inr h1.t, h, q.val (.str _)⟩
      · exact q.no
    · exact q.no
  · exact q.no
theorem od_split {K : Fg} : Op2 K Zc Zc (fun x y H Q => ∃ a b, x = .str a ∧ [y] = [V.str b] ∧ (b.length == 0) = false ∧ a.length + 2 ≤ sizeLine ∧ rNewStrs (Txt.split a b) H Q) splitD := by
  intro W σ θ G ρ Ws H x y a b Q hx hy q
  have s := q.same
  unfold splitD at q
  split at q
  · split at q
    · rename_i h
      cases hx
      cases hy
      exact ⟨_, _, rfl, rfl, h.1, h.2, fun p hp => q.new hp (new_lst hp s (RpA.ofStrs _))⟩
    · exact q.no
  · exact q.no
/-- f'..' -/
def fmtD : D → R D
  | .str y => if y.length ≤ sizeLine then .ok (.str y) else .st
  | .int i => if i.natAbs.log2 < 1920 then .ok (.str (toString i)) else .st
  | _ => .st
theorem dp_fmt (h : DP X W e fa) : DP X W (.FormattedValue e (-1) none pos) (p1 fmtD fa) :=
  ⟨PE.conseq (pe_fmt h.run) fun σ H Q h => tZ_1 (r := fun x H1 Q => (∃ y : Str, x = .str y ∧ y.length ≤ sizeLine ∧ Q (.str y) H1) ∨ ∃ i : Int, x = .int i ∧ i.natAbs.log2 < 1920 ∧ Q (.str (toString i)) H1) (Za := Zc) (by
    intro W σ θ G ρ Ws H x a Q hx q
    unfold fmtD at q
    split at q
    · split at q
      · rename_i h; cases hx; exact .inl ⟨_, rfl, h, q.val (.str _)⟩
      · exact q.no
    · split at q
      · rename_i h; cases hx; exact .inr ⟨_, rfl, h, q.val (.str _)⟩
      · exact q.no
    · exact q.no) h⟩
inductive DJs (X : Cx) (W : WX) : List Expr → List (List Sl → R D) → Prop where
  | nil : DJs X W [] []
  | cons {e : Expr} {g : List Sl → R D} {es : List Expr} {gs : List (List Sl → R D)} (h : DP X W e g) (r : DJs X W es gs) : DJs X W (e :: es) (g :: gs)
def pJs : List (List Sl → R D) → Str → List Sl → R D
  | [], acc, _ => .ok (.str acc)
  | g :: gs, acc, ρ => (g ρ).bind fun d => match d with
    | .str y => if (acc ++ y).length ≤ sizeLine then pJs gs (acc ++ y) ρ else .st
    | _ => .st
theorem DJs.pj {es : List Expr} {gs : List (List Sl → R D)} (h : DJs X W es gs) : PJ X es (gs.map (tZ Zc X.K W)) := by
  induction h with
  | nil => exact .nil
  | cons h _ ih => exact .cons h.run ih
theorem js_run {K : Fg} {σ : L2.St} {θ : Nat → Addr} {ρ : List Sl} {Ws : List Addr} {Q : VK} : ∀ {gs : List (List Sl → R D)} {acc : Str} {G H : Hp}, Pk Zc K W σ θ G ρ Ws H (pJs gs acc ρ) Q → tJs (gs.map (tZ Zc K W)) acc σ H fun out H1 => Q (.str out) H1
  | [], acc, G, H, q => q.val (.str acc)
  | g :: gs, acc, G, H, q => ⟨θ, G, ρ, Ws, (q.bind (Za := Zc)).imp fun x H1 ⟨d, G1, _, e, z, q1⟩ => by
    cases z with
    | str y =>
      dsimp only at q1
      split at q1
      · rename_i h; exact ⟨y, rfl, h, js_run q1⟩
      · exact q1.no
    | _ => exact q1.no⟩
theorem dp_joined {v1 v2 : Expr} {rest : List Expr} {gs : List (List Sl → R D)} (h : DJs X W (v1 :: v2 :: rest) gs) : DP X W (.JoinedStr (v1 :: v2 :: rest) pos) (pJs gs Str.empty) :=
  ⟨PE.conseq (pe_joined h.pj) fun σ H Q ⟨θ, G, ρ, Ws, q⟩ => js_run q⟩
def strD : D → R D
  | .str y => .ok (.str y)
  | .int i => if i.natAbs.log2 < 1920 then .ok (.str (toString i)) else .st
  | _ => .st
theorem od_str {K : Fg} : Op1 K Zc (fun x H Q => (∃ a, [x] = [V.str a] ∧ Q (.str a) H) ∨ ∃ i, [x] = [V.int i] ∧ i.natAbs.log2 < 1920 ∧ Q (.str (toString i)) H) strD := by
  intro W σ θ G ρ Ws H x a Q hx q
  unfold strD at q
  split at q
  · cases hx; exact .inl ⟨_, rfl, q.val (.str _)⟩
  · split at q
    · rename_i h; cases hx; exact .inr ⟨_, rfl, h, q.val (.str _)⟩
    · exact q.no
  · exact q.no

/-! ### lists anew -/
def listD : D → R D
  | .lst xs => .ok (.lst xs)
  | .tup xs => .ok (.lst xs)
  | .scr ns => .ok (.lst (ns.map .int))
  | _ => .st
def rListOf (K : Fg) : List V → Hp → VK → Prop := fun xs H Q => ∃ p ys, xs = [.ref p] ∧ (SqL K H p ys ∨ SqT K H p ys) ∧ ∀ l, H l = none → Q (.ref l) (upd H l (.lst ys))
/-- a new list from one value -/
theorem tF_of1 [ZOk Za] {K : Fg} {r : V → Hp → VK → Prop} {f : D → R D} (hd : ∀ {G H x a ds}, Same G H → Za K G H x a → f a = .ok ds → ∃ xs vs, ds = .lst xs ∧ RpA K G vs xs ∧ ∀ Q, (∀ p, H p = none → Q (.ref p) (upd H p (.lst vs))) → r x H Q) (hn : ∀ a x, f a ≠ .ex x)
    {σ H Q} (h : tF K W (p1 f fa) σ H Q) : tZ Za K W fa σ H fun x H1 => r x H1 Q := by
  obtain ⟨θ, G, ρ, Ws, S, q⟩ := h
  refine ⟨θ, G, ρ, Ws, S, ?_⟩
  unfold p1 at q
  cases hg : fa ρ with
  | st => rw [hg] at q; exact q
  | ex x => rw [hg] at q; exact q
  | ok d =>
    rw [hg] at q
    intro v G1 H1 e1 z
    have S1 := S.ext e1
    cases hf : f d with
    | st => rw [R.bind_ok, hf] at q; exact q.elim
    | ex x => exact absurd hf (hn d x)
    | ok ds =>
      rw [R.bind_ok, hf] at q
      obtain ⟨xs, vs, rfl, ra, k⟩ := hd S1.same z hf
      exact k Q fun p hp => q p vs G1 _ (e1.trans (Ext.aside e1.s hp)) (e1.h.free hp) (e1.s.free hp) upd_same ra
theorem df_listOf (ha : DQ X W a fa) (hpe : ∀ t, PA X [a] t → PE X e (tCB (rListOf X.K) t)) (hs : starEach [a] X.env = (false, eval a X.env) :: starEach [] X.env := by rfl) : DF X W e (p1 listD fa) :=
  ⟨PE.conseq (hpe _ (pa_cons ha.run pa_nil hs)) fun σ H Q h => tF_of1 (Za := Zh) (r := fun x H Q => rListOf X.K [x] H Q) (fun {G H x a ds} s z e => by
    unfold listD at e
    split at e
    · cases e
      obtain ⟨p, vs, rfl, h1, r1⟩ := z.lst s
      exact ⟨_, vs, rfl, r1, fun Q q => ⟨p, vs, rfl, .inl (SqL.of h1), q⟩⟩
    · cases e
      obtain ⟨p, vs, rfl, h1, r1⟩ := z.tup s
      exact ⟨_, vs, rfl, r1, fun Q q => ⟨p, vs, rfl, .inr h1.t, q⟩⟩
    · cases e
      rcases z with z | ⟨_, _, _, _, h3, _⟩
      · cases z with
        | scr h => exact ⟨_, _, rfl, RpA.ofInts _, fun Q q => ⟨_, _, rfl, .inl (s.seq h), q⟩⟩
      · cases h3
    · cases e) (fun a x e => by unfold listD at e; split at e <;> cases e) h⟩
theorem df_split (ha : DP X W a fa) (hb : DP X W b fb) (hpe : ∀ to te, PE X a to → PE X b te → PE X c (tM1 (fun x xs H Q => ∃ a b, x = .str a ∧ xs = [.str b] ∧ (b.length == 0) = false ∧ a.length + 2 ≤ sizeLine ∧ rNewStrs (Txt.split a b) H Q) to te)) : DP X W c (pM1 splitD fa fb) :=
  dp_m1 od_split ha hb hpe
/-- list(range(n)) -/
def lrD (d : D) : R D := match d with
  | .int n => if 0 ≤ n ∧ n ≤ 16777216 then .ok (.lst (rangeD 0 n)) else .st
  | _ => .st
theorem df_listRg (ha : DP X W a fa) (hpe : ∀ te, PE X a te → PE X e (tLstRg (tRg1 te))) : DF X W e (p1 lrD fa) :=
  ⟨PE.conseq (hpe _ ha.run) fun σ H Q h => tF_of1 (Za := Zc) (r := fun x H Q => ∃ n, x = V.int n ∧ RgOk 0 n ∧ ∀ q, H q = none → Q (.ref q) (upd H q (.lst (rgV 0 n)))) (fun {G H x a ds} s z e => by
    unfold lrD at e
    split at e
    · split at e
      · rename_i n h
        cases e
        cases z
        refine ⟨_, rgV 0 n, rfl, ?_, fun Q q => ⟨n, rfl, RgOk.of_le (by omega) h.2 (by omega) h.1, q⟩⟩
        have := RpA.ofInts (K := X.K) (G := G) ((List.range (n - 0).toNat).map fun (k : Nat) => (0 : Int) + k)
        unfold rgV rangeD
        simpa [List.map_map, Function.comp_def] using this
      · cases e
    · cases e) (fun a x e => by unfold lrD at e; split at e <;> (try split at e) <;> cases e) h⟩

/-! ### three numbers; divmod -/
def min3D (x y z : D) : R D := match x, y, z with
  | .int i, .int j, .int k => .ok (.int (if k < (if j < i then j else i) then k else (if j < i then j else i)))
  | _, _, _ => .st
theorem dp_call3 {Zw : ZK} [ZOk Za] [ZOk Zb] [ZOk Zw] {r : List V → Hp → VK → Prop} {f : D → D → D → R D} (hd : Op3 X.K Za Zb Zw (fun x y z => r [x, y, z]) f) (ha : DZ Za X W a fa) (hb : DZ Zb X W b fb) (hc : DZ Zw X W c fc) (hpe : ∀ t, PA X [a, b, c] t → PE X e (tCB r t))
    (hs : starEach [a, b, c] X.env = (false, eval a X.env) :: starEach [b, c] X.env := by rfl) (hs2 : starEach [b, c] X.env = (false, eval b X.env) :: starEach [c] X.env := by rfl) (hs3 : starEach [c] X.env = (false, eval c X.env) :: starEach [] X.env := by rfl) : DP X W e (p3 f fa fb fc) :=
  ⟨PE.conseq (hpe _ (pa_cons ha.run (pa_cons hb.run (pa_cons hc.run pa_nil hs3) hs2) hs)) fun _ _ _ h => tZ_3 hd h⟩
theorem od_min3 {K : Fg} : Op3 K Zc Zc Zc (fun x y z => rNuC3 nuMin3 [x, y, z]) min3D := by
  intro W σ θ G ρ Ws H x y z a b c Q hx hy hz q
  unfold min3D at q
  split at q
  · cases hx
    cases hy
    cases hz
    refine ⟨_, _, _, _, rfl, ?_, q.val (.int _)⟩
    rename_i i j k
    simp only [nuMin3, nuMin2, nuLt, nuCB, Option.map_some, Option.bind_some, decide_eq_true_eq]
    by_cases h : j < i
    · simp only [if_pos h, Option.map_some, decide_eq_true_eq]
      by_cases h2 : k < j
      · simp only [if_pos h2]
      · simp only [if_neg h2]
    · simp only [if_neg h, Option.map_some, decide_eq_true_eq]
      by_cases h2 : k < i
      · simp only [if_pos h2]
      · simp only [if_neg h2]
  · exact q.no
/-- a value, or a tuple that is known by its items alone -/
def Zi : ZK := fun K G _ v d => RpI K G v d
def dmD (x y : D) : R D := match x, y with
  | .int i, .int j => if 0 < j ∧ j < 1073741824 then .ok (.tup [.int (i / j), .int (i % j)]) else .st
  | _, _ => .st
theorem dp_divmod (ha : DP X W a fa) (hb : DP X W b fb) (hpe : ∀ t, PA X [a, b] t → PE X e (tCB (fun xs H Q => ∃ i j, xs = [.int i, .int j] ∧ CDiv i j ∧ ∀ p, H p = none → Q (.ref p) (upd H p (.tup [.int (i / j), .int (i % j)]))) t))
    (hs : starEach [a, b] X.env = (false, eval a X.env) :: starEach [b] X.env := by rfl) (hs2 : starEach [b] X.env = (false, eval b X.env) :: starEach [] X.env := by rfl) : DZ Zi X W e (p2 dmD fa fb) :=
  ⟨PE.conseq (hpe _ (pa_cons ha.run (pa_cons hb.run pa_nil hs2) hs)) fun σ H Q ⟨θ, G, ρ, Ws, q⟩ => ⟨θ, G, ρ, Ws, (q.bind (Za := Zc)).imp fun x H1 ⟨d, G1, _, e, z, q1⟩ => ⟨θ, G1, ρ, Ws, (q1.bind (Za := Zc)).imp fun y H2 ⟨d2, G2, _, e2, z2, q2⟩ => by
    unfold dmD at q2
    split at q2
    · split at q2
      · rename_i h
        cases z
        cases z2
        exact ⟨_, _, rfl, h, fun p hp => q2.new hp (RpI.t upd_same (.cons (.int _) (.cons (.int _) .nil)))⟩
      · exact q2.2.elim
    · exact q2.2.elim⟩⟩⟩
theorem tm_tupI {K : Fg} {t1 : TGs} {f : List D → List Sl → Option (List Sl)} {n : Nat} (r1 : TgsM K W t1 f) (hf : ∀ ds ρ ρ', f ds ρ = some ρ' → ds.length = n) {θ G H σ ρ Ws v d ρ' Q} (S : Stt K θ G H σ ρ Ws) (r : RpI K G v d) (e : gTupD f d ρ = some ρ')
    (q : ∀ σ' G' H' W', Fr G H Ws G' H' W' → Stt K θ G' H' σ' ρ' W' → Q σ' H') : gTup K n t1 v σ H Q := by
  cases r with
  | r r => exact tm_tup (W := W) r1 hf S r e q
  | t ht r => exact ⟨_, _, rfl, SqT.of (S.same _ _ ht), by rw [r.length]; exact hf _ _ _ e, r1 S r e q⟩
theorem ds_asgI {s : Stmt} {n : Nat} {gg : TGs} {tf : List D → List Sl → Option (List Sl)} {g : List Sl → R D} (hg : TgsM X.K W gg tf) (hf : ∀ ds ρ ρ', tf ds ρ = some ρ' → ds.length = n) (he : DZ Zi X W e g) (hps : ∀ te, PE X e te → PS X s (tAsg te (gTup X.K n gg))) : DS X W s (sAsg (gTupD tf) g) :=
  ⟨PS.conseq (hps _ he.run) fun E σ H ⟨θ, G, ρ, Ws, S, q⟩ => ⟨θ, G, ρ, Ws, (Fin.pk (Z := Zi) S q).imp fun v H1 ⟨d, G1, e1, S1, z, q1⟩ => by
    cases hf' : gTupD tf d ρ with
    | none => rw [hf'] at q1; exact q1.elim
    | some ρ' =>
      rw [hf'] at q1
      exact tm_tupI (W := W) hg hf S1 z hf' fun σ' G' H' W' fr S' => q1 σ' G' H' W' fr S'⟩⟩
end

/-! ### repr -/
mutual
theorem pure_noDict : ∀ d : D, d.pure = true → d.py.hasDict = false
  | .non, _ | .bl _, _ | .int _, _ | .str _, _ => rfl
  | .tup xs, h => by
    have := pureA_noDict xs (by simpa [D.pure] using h)
    simpa [D.py, PyData.hasDict] using this
  | .lst xs, h => by
    have := pureA_noDict xs (by simpa [D.pure] using h)
    simpa [D.py, PyData.hasDict] using this
  | .scr _, h | .dct _, h | .ins _ _, h => by simp [D.pure] at h
theorem pureA_noDict : ∀ xs : List D, pureA xs = true → PyData.hasDictAll (pyA xs) = false
  | [], _ => rfl
  | x :: xs, h => by
    simp only [pureA, Bool.and_eq_true] at h
    simp only [pyA, PyData.hasDictAll, pure_noDict x h.1, pureA_noDict xs h.2, Bool.or_self]
end
def D.shows (d : D) : Bool := d.pure && d.py.showable && decide (d.py.depth ≤ 100) && decide (d.py.shown.length ≤ sizeLine)
def reprD (d : D) : R D := if d.shows then .ok (.str d.py.shown) else .st
def rRepr (K : Fg) : List V → Hp → VK → Prop := fun xs H Q => ∃ x d, xs = [x] ∧ Dp K H x d ∧ d.showable = true ∧ d.hasDict = false ∧ d.depth ≤ 100 ∧ d.shown.length ≤ sizeLine ∧ Q (.str d.shown) H
theorem cr_repr {X : Cx} (hg : X.A.guards = some []) (hu : X.A.units + 200 < cLine) : CallR X (.builtin "repr") (rRepr X.K) := by
  intro pins s σ H xs us Q I r h
  obtain ⟨x, d, rfl, hd, hs, hn, hdp, hz, q⟩ := h
  obtain ⟨u, rfl, rx⟩ := vals1 r
  obtain ⟨as, rd⟩ := Dp.reads I d x u hd rx
  cases hd with
  | non => cases rx; exact PySem.P.repr_of_none ⟨.str _, H, I.tok _, ⟨_, rfl⟩, q⟩
  | bl b => cases rx; exact PySem.P.repr_of_bool ⟨.str _, H, I.tok _, ⟨_, rfl⟩, by simpa [PyData.shown] using q⟩
  | int i =>
    obtain ⟨t, rfl⟩ := rx
    exact PySem.P.repr_of_int (by simpa [PyData.showable] using hs) ⟨.str _, H, I.tok _, ⟨_, rfl⟩, q⟩
  | str z =>
    obtain ⟨t, rfl⟩ := rx
    exact PySem.P.repr_of_str ⟨.str _, H, I.tok _, ⟨_, rfl⟩, q⟩ hz
  | tup h1 h2 =>
    cases rx
    exact PySem.repr_of_reads' rd hs (PyData.noDict_hsm hn) hg (by omega) (fun _ _ e => e) (fun h' u tk hk => ⟨.str _, H, I.kept hk, ⟨_, rfl⟩, q⟩) hz
  | lst h1 h2 =>
    cases rx
    exact PySem.repr_of_reads' rd hs (PyData.noDict_hsm hn) hg (by omega) (fun _ _ e => e) (fun h' u tk hk => ⟨.str _, H, I.kept hk, ⟨_, rfl⟩, q⟩) hz
theorem od_repr {K : Fg} : Op1 K Zd (fun x H Q => rRepr K [x] H Q) reprD := by
  intro W σ θ G ρ Ws H x a Q hx q
  unfold reprD at q
  split at q
  · rename_i h
    simp only [D.shows, Bool.and_eq_true, decide_eq_true_eq] at h
    exact ⟨x, a.py, rfl, hx.dp h.1.1.1, h.1.1.2, pure_noDict a h.1.1.1, h.1.2, h.2, q.val (.str _)⟩
  · exact q.no
end DL

set_option Elab.async false
set_option linter.all false
set_option maxRecDepth 100000
set_option maxHeartbeats 2000000
/-! The data layer, twelfth part: written arguments of any kind; own classes. -/
namespace DL
open PySem PySem.Spec PyProof.Rows L2

/-! ### written arguments: n positional ones, then keywords named ks -/
structure AA (X : Cx) (pos : Pos) (es : List Expr) (kws : List Keyword) (n : Nat) (ks : List Str) (t : TA) : Prop where
  plain : ((backTo pos (starEach es X.env)).any (·.1) || (backToKw pos (keywordEach kws X.env)).any (·.1.isNone)) = false
  run : ∀ {pins : List (Addr × Obj)} {s : Shared} {σ : L2.St} {H : Hp} {f : Value} {P : List V → Hp → Prop}, Inv X pins σ H s → t σ H P →
    wpAny (model X.prog X.w) X.A (evalArgs f true (backTo pos (starEach es X.env)) (backToKw pos (keywordEach kws X.env)))
      (fun a s1 => ∃ us ws all H1, a = ⟨us, ks.zip ws⟩ ∧ us.length = n ∧ ws.length = ks.length ∧ Inv X pins σ H1 s1 ∧ Vals all (us ++ ws) ∧ P all H1) X.xe s
structure DArg (X : Cx) (W : WX) (pos : Pos) (es : List Expr) (kws : List Keyword) (n : Nat) (ks : List Str) (g : List Sl → R (List D)) : Prop where
  aa : AA X pos es kws n ks (tA X.K W g)
/-- the values of the keywords -/
structure DK (X : Cx) (W : WX) (kws : List Keyword) (g : List Sl → R (List D)) : Prop where
  run : PK X kws (tA X.K W g)
theorem PK.conseq {X : Cx} {e : List Keyword} {t t' : TA} (h : PK X e t) (w : ∀ σ H Q, t' σ H Q → t σ H Q) : PK X e t' := ⟨fun pos pins s σ H Q I q => h.run pos pins s σ H Q I (w _ _ _ q)⟩
def aLen (n : Nat) (g : List Sl → R (List D)) (ρ : List Sl) : R (List D) := (g ρ).bind fun ds => if ds.length = n then .ok ds else .st
def aApp (n m : Nat) (g gk : List Sl → R (List D)) (ρ : List Sl) : R (List D) := (g ρ).bind fun ds => (gk ρ).bind fun es => if ds.length = n ∧ es.length = m then .ok (ds ++ es) else .st
section
variable {X : Cx} {W : WX} {e : Expr} {es : List Expr} {kws : List Keyword} {pos : Pos} {g gk : List Sl → R (List D)} {gd : List Sl → R D} {n : Nat} {ks : List Str}
theorem dk_nil : DK X W [] aNil := ⟨PK.conseq pk_nil fun σ H Q ⟨θ, G, ρ, Ws, q⟩ => q.2 _ _ _ (Ext.refl q.1.same) .nil⟩
theorem dk_cons {nm : Option Str} {kpos : Pos} (h : DP X W e gd) (t : DK X W kws gk) : DK X W (⟨nm, e, kpos⟩ :: kws) (aCons gd gk) :=
  ⟨PK.conseq (pk_cons h.run t.run) fun σ H Q ⟨θ, G, ρ, Ws, q⟩ => ⟨θ, G, ρ, Ws, (Ak.pk (Z := Zc) q).imp fun v H1 ⟨d, G1, _, e1, z, q1⟩ => ⟨θ, G1, ρ, Ws, (Ak.bind q1).imp fun vs H2 ⟨ds, G2, _, e2, z2, q2⟩ =>
    q2.2 _ _ _ (Ext.refl q2.1.same) (.cons (Rp.mono e2.g z) z2)⟩⟩⟩
theorem dg_pos (h : DA X W (e :: es) g) (he : starEach (e :: es) X.env = (false, eval e X.env) :: starEach es X.env := by rfl) (hpl : (backTo pos (starEach es X.env)).any (·.1) = false := by rfl) : DArg X W pos (e :: es) [] n [] (aLen n g) := by
  refine ⟨⟨?_, fun {pins s σ H f P} I ⟨θ, G, ρ, Ws, q⟩ => ?_⟩⟩
  · rw [he]
    show ((false || (backTo pos (starEach es X.env)).any (·.1)) || false) = false
    rw [hpl]; rfl
  · have hA := h.run.run pos pins s σ H (fun vs H1 => vs.length = n ∧ P vs H1) I ⟨θ, G, ρ, Ws, (Ak.bind q).imp fun vs H1 ⟨ds, G1, _, e1, z, q1⟩ => by
      split at q1
      · rename_i hl
        exact ⟨z.length.trans hl, q1.2 _ _ _ (Ext.refl q1.1.same) z⟩
      · exact q1.2.elim⟩
    rw [he] at hA ⊢
    exact Calls.evalArgs_plain (thn hA fun us s1 ⟨vs, H1, I1, r, hl, q⟩ => ⟨us, [], vs, H1, rfl, r.length.symm.trans hl, rfl, I1, by simpa using r, q⟩)
theorem dg_kw (h : DA X W (e :: es) g) (hk : DK X W kws gk) (hall : (backToKw pos (keywordEach kws X.env)).all (·.1.isSome) = true := by rfl) (hks : (backToKw pos (keywordEach kws X.env)).filterMap (·.1) = ks := by rfl)
    (he : starEach (e :: es) X.env = (false, eval e X.env) :: starEach es X.env := by rfl) (hpl : ((backTo pos (starEach (e :: es) X.env)).any (·.1) || (backToKw pos (keywordEach kws X.env)).any (·.1.isNone)) = false := by rfl) : DArg X W pos (e :: es) kws n ks (aApp n ks.length g gk) :=
  ⟨⟨hpl, fun {pins s σ H f P} I ⟨θ, G, ρ, Ws, q⟩ => by
    refine PyProof.Rows.evalArgs_kw2 hall (thn (h.run.run pos pins s σ H _ I ⟨θ, G, ρ, Ws, (Ak.bind q).imp fun vs H1 hh => hh⟩) fun us s1 ⟨vs, H1, I1, r, ds, G1, _, e1, z, q1⟩ => ?_) he
    refine thn (hk.run.run pos pins s1 σ H1 _ I1 ⟨θ, G1, ρ, Ws, (Ak.bind q1).imp fun zs H2 hh => hh⟩) fun ws s2 ⟨zs, H2, I2, r2, ds2, G2, _, e2, z2, q2⟩ => ?_
    rw [hks]
    split at q2
    · rename_i hl
      exact ⟨us, ws, vs ++ zs, H2, rfl, r.length.symm.trans (z.length.trans hl.1), r2.length.symm.trans (z2.length.trans hl.2), I2, r.append r2, q2.2 _ _ _ (Ext.refl q2.1.same) ((z.mono e2.g).append z2)⟩
    · exact q2.2.elim⟩⟩
theorem dg_kw0 (hk : DK X W kws gk) (hall : (backToKw pos (keywordEach kws X.env)).all (·.1.isSome) = true := by rfl) (hks : (backToKw pos (keywordEach kws X.env)).filterMap (·.1) = ks := by rfl)
    (hpl : ((backTo pos (starEach [] X.env)).any (·.1) || (backToKw pos (keywordEach kws X.env)).any (·.1.isNone)) = false := by rfl) : DArg X W pos [] kws 0 ks (aLen ks.length gk) :=
  ⟨⟨hpl, fun {pins s σ H f P} I ⟨θ, G, ρ, Ws, q⟩ => by
    refine PyProof.Rows.evalArgs_kw2_nil hall (thn (hk.run.run pos pins s σ H _ I ⟨θ, G, ρ, Ws, (Ak.bind q).imp fun vs H1 hh => hh⟩) fun ws s1 ⟨zs, H1, I1, r, ds, G1, _, e1, z, q1⟩ => ?_)
    rw [hks]
    split at q1
    · rename_i hl
      exact ⟨[], ws, zs, H1, rfl, rfl, r.length.symm.trans (z.length.trans hl), I1, r, q1.2 _ _ _ (Ext.refl q1.1.same) z⟩
    · exact q1.2.elim⟩⟩
theorem dg_nil : DArg X W pos [] [] 0 [] aNil :=
  ⟨⟨rfl, fun {pins s σ H f P} I ⟨θ, G, ρ, Ws, q⟩ => PyProof.Rows.evalArgs_nil3 ⟨[], [], [], H, rfl, rfl, rfl, I, .nil, q.2 _ _ _ (Ext.refl q.1.same) .nil⟩⟩⟩
end

/-! ### the parameters' values -/
def pick {α : Type} (idx : List Nat) (xs : List α) : List α := idx.filterMap fun i => xs[i]?
theorem vals_pick {vs : List V} {us : List Value} (r : Vals vs us) : ∀ idx : List Nat, Vals (pick idx vs) (pick idx us)
  | [] => .nil
  | i :: idx => by
    have ih := vals_pick r idx
    unfold pick at ih ⊢
    rw [List.filterMap_cons, List.filterMap_cons]
    have hl := r.length
    cases e : vs[i]? with
    | none =>
      have : us[i]? = none := by rw [List.getElem?_eq_none_iff] at e ⊢; omega
      rw [this]; exact ih
    | some v =>
      obtain ⟨u, eu, ru⟩ := r.get e
      rw [eu]
      exact .cons ru ih
theorem RpA.pick {K : Fg} {G : Hp} {vs : List V} {ds : List D} (r : RpA K G vs ds) : ∀ idx : List Nat, RpA K G (DL.pick idx vs) (DL.pick idx ds)
  | [] => .nil
  | i :: idx => by
    have ih := r.pick idx
    unfold DL.pick at ih ⊢
    rw [List.filterMap_cons, List.filterMap_cons]
    have hl := r.length
    cases e : ds[i]? with
    | none =>
      have : vs[i]? = none := by rw [List.getElem?_eq_none_iff] at e ⊢; omega
      rw [this]; exact ih
    | some v =>
      obtain ⟨u, eu, ru⟩ := r.get e
      rw [eu]
      exact .cons ru ih
/-- how the parameters are bound: by n positional values, keywords named ks, defaults dvs; first: values that stand ahead of all (self, cls) -/
def KwB (K : Fg) (fd : FuncData) (ps : List Str) (nf n : Nat) (ks : List Str) (dvs : List V) (idx : List Nat) : Prop :=
  ∃ its : List Value, Vals dvs its ∧ ∀ (s : Shared) (first us ws : List Value), K.In s.heap → first.length = nf → us.length = n → ws.length = ks.length → BindsTo s fd ⟨first ++ us, ks.zip ws⟩ (ps.zip (first ++ pick idx (us ++ ws ++ its)))
section
variable {K : Fg} {x qual : Str} {params : Arguments} {body : List Stmt} {scope : Scope} {dvs : List V} {kws : List (Str × V)} {f : Addr} {fd : FuncData} {ps ks : List Str} {nf n : Nat} {idx : List Nat}
theorem kwb0 (F : FunD K x qual params body scope [] kws f fd)
    (h : ∀ (kV doc pm : Value) (an : Option Addr) (cdv ct : Value) (first us ws : List Value), first.length = nf → us.length = n → ws.length = ks.length →
      bindArgs (PySem.W.fnOf x qual params body scope .none kV doc pm an cdv ct) ⟨first ++ us, ks.zip ws⟩ = pure (ps.zip (first ++ pick idx (us ++ ws)))) : KwB K fd ps nf n ks [] idx := by
  obtain ⟨oc, od, dV, kV, doc, pm, an, cdv, ct, osl, rfl, lk, hcd, hD, hK⟩ := F.ex
  rcases hD with ⟨_, rfl⟩ | ⟨e, _⟩
  · exact ⟨[], .nil, fun s first us ws _ h0 h1 h2 => by
      have := h kV doc pm an cdv ct first us ws h0 h1 h2
      rw [List.append_nil]
      exact .of_eq this⟩
  · exact absurd rfl e
theorem kwbD (F : FunD K x qual params body scope dvs kws f fd) (hd : dvs ≠ [])
    (h : ∀ (T : Addr) (kV doc pm : Value) (an : Option Addr) (cdv ct : Value) (first us its ws : List Value), first.length = nf → us.length = n → its.length = dvs.length → ws.length = ks.length →
      ∃ k, bindArgs (PySem.W.fnOf x qual params body scope (.ref T) kV doc pm an cdv ct) ⟨first ++ us, ks.zip ws⟩ = seqItems? (.ref T) >>= k ∧ k (some its.toArray) = pure (ps.zip (first ++ pick idx (us ++ ws ++ its)))) : KwB K fd ps nf n ks dvs idx := by
  obtain ⟨oc, od, dV, kV, doc, pm, an, cdv, ct, osl, rfl, lk, hcd, hD, hK⟩ := F.ex
  rcases hD with ⟨e, _⟩ | ⟨_, T, o, its, m, rfl, lT, oT, rT⟩
  · exact absurd e hd
  · refine ⟨its, rT, fun s first us ws X h0 h1 h2 => ?_⟩
    obtain ⟨k, e1, e2⟩ := h T kV doc pm an cdv ct first us its ws h0 h1 rT.length.symm h2
    refine BindsTo.of_looks fun M => ?_
    rw [e1]
    exact looks_items X lT oT (.of_pure e2)
end
/-- what is called runs by the promise at the parameters' values (first: values ahead of all) -/
def Runs (X : Cx) (W : WX) (c : Value) (n : Nat) (ks : List Str) (dvs : List V) (tr : List V → Hp → VK → XK → Prop) : Prop :=
  ∀ ⦃pins : List (Addr × Obj)⦄ ⦃σ : L2.St⦄ ⦃H : Hp⦄ ⦃s : Shared⦄ ⦃us ws : List Value⦄ ⦃all : List V⦄ ⦃Q : VK⦄, Inv X pins σ H s → us.length = n → ws.length = ks.length → Vals all (us ++ ws) → tr (all ++ dvs) H Q (WE W σ) →
    wpAny (model X.prog X.w) X.A (PySem.call c us (ks.zip ws)) (EP X pins σ Q) X.xe s
/-- x(..), a name of the module -/
structure CalA (X : Cx) (W : WX) (x : Str) (n : Nat) (ks : List Str) (dds : List D) (tr : List V → Hp → VK → XK → Prop) : Prop where
  ex : ∃ (c : Value) (dvs : List V), X.mg x = some c ∧ PySem.W.keepIn X.K c = true ∧ (∀ G, RpA X.K G dvs dds) ∧ Runs X W c n ks dvs tr
  gl : Gl X x
  db : (x == ("__debug__" : Str)) = false
section
variable {X : Cx} {W : WX} {k : Nat} {f C : Addr} {fd : FuncData} {ps ks : List Str} {sp : Sp} {x : Str} {p pos : Pos} {es : List Expr} {kws : List Keyword} {n : Nat} {idx : List Nat} {dds : List D} {dvs : List V} {g : List Sl → R (List D)} {F : List Sl → RS}
theorem runs_of (F : FnOg X.prog X.w X.K X.mg X.base k f fd ps sp) (hgd : X.A.guards = some []) (hr : Room k X.A) (hb : KwB X.K fd ps 0 n ks dvs idx) (tk : Takes X W) : Runs X W (.ref f) n ks dvs (fun all H Q E => sp (pick idx all) H Q E) := by
  intro pins σ H s us ws all Q I l1 l2 r h
  obtain ⟨its, ri, b⟩ := hb
  have b := b s [] us ws I.kIn rfl l1 l2
  refine wpAny_call (codeAny_mono (F.run hgd hr I.env0 (by simpa using b) (vals_pick (r.append ri) idx) h) fun r s' hq => ?_)
  match r, hq with
  | .error e, hq => exact passAt tk σ pins H s e s' I hq
  | .ok (.ret u), hq => exact I.after hq
  | .ok .next, hq => exact hq.elim
  | .ok .brk, hq => exact hq.elim
  | .ok .cont, hq => exact hq.elim
theorem runs_ok (F : FnOk X.prog X.w X.K X.mg X.base (L2.CX X.prog X.w) k f fd ps sp) (hr : Room k X.A) (hb : KwB X.K fd ps 0 n ks dvs idx) (tk : Takes X W) : Runs X W (.ref f) n ks dvs (fun all H Q E => sp (pick idx all) H Q E) := by
  intro pins σ H s us ws all Q I l1 l2 r h
  obtain ⟨its, ri, b⟩ := hb
  have b := b s [] us ws I.kIn rfl l1 l2
  refine wpAny_call (codeAny_mono (F.run X.A X.stack s H ⟨us, ks.zip ws⟩ _ _ Q (WE W σ) hr I.env0 (by simpa using b) (vals_pick (r.append ri) idx) h) fun r s' hq => ?_)
  match r, hq with
  | .error e, hq => exact passAt tk σ pins H s e s' I hq
  | .ok (.ret u), hq => exact I.after hq
  | .ok .next, hq => exact hq.elim
  | .ok .brk, hq => exact hq.elim
  | .ok .cont, hq => exact hq.elim
/-- an own class is called: a new instance, then __init__ -/
theorem runs_make (M : Mk X.K C f) (F : FnOk X.prog X.w X.K X.mg X.base (L2.CX X.prog X.w) k f fd ps sp) (hr : Room (k + 1) X.A) (hb : KwB X.K fd ps 1 n ks dvs idx) (tk : Takes X W) :
    Runs X W (.ref C) n ks dvs (fun all H Q E => ∀ y dx, H y = none → H dx = none → dx ≠ y → sp (.ref y :: pick idx all) (upd (upd H dx (.own y)) y (.ins C dx [])) (fun v H2 => v = .non ∧ Q (.ref y) H2) E) := by
  intro pins σ H s us ws all Q I l1 l2 r h
  obtain ⟨its, ri, b⟩ := hb
  have hq := h (s.heap.objs.size + 1) s.heap.objs.size (I.hok.fresh (Nat.le_succ _)) (I.hok.fresh (Nat.le_refl _)) (Nat.ne_of_lt (Nat.lt_succ_self _))
  have I2 := Inv.made (C := C) I
  have b := b _ [.ref (s.heap.objs.size + 1)] us ws I2.kIn rfl l1 l2
  have rr : Vals (V.ref (s.heap.objs.size + 1) :: pick idx (all ++ dvs)) ([Value.ref (s.heap.objs.size + 1)] ++ pick idx (us ++ ws ++ its)) := .cons rfl (vals_pick (r.append ri) idx)
  have run := F.run _ X.stack _ _ ⟨[Value.ref (s.heap.objs.size + 1)] ++ us, ks.zip ws⟩ _ _ _ (WE W σ) (hr.make C us (ks.zip ws)) (I2.env0.make C us (ks.zip ws)) b rr hq
  refine wpAny_call (make_map (f := f) I.kIn M.makes M.init (beq_iff_eq.mp M.fn) (codeAny_mono run fun r s' hq' => ?_))
  match r, hq' with
  | .error e, hq' => exact passAt tk σ pins _ _ e s' I2 hq'
  | .ok (.ret u), hq' =>
    obtain ⟨v, H', I3, rv, ev, q3⟩ := I2.after hq'
    subst ev
    exact ⟨rv, ⟨V.ref (s.heap.objs.size + 1), H', I3, rfl, q3⟩⟩
  | .ok .next, hq' => exact hq'.elim
  | .ok .brk, hq' => exact hq'.elim
  | .ok .cont, hq' => exact hq'.elim
/-- the call by a name -/
theorem pe_callA {tr : List V → Hp → VK → XK → Prop} {t : TA} {c : Value} (hm : X.mg x = some c) (hk : PySem.W.keepIn X.K c = true) (hg : Gl X x) (hdb : (x == ("__debug__" : Str)) = false) (r : Runs X W c n ks dvs tr) (ha : AA X pos es kws n ks t) :
    PE X (.Call (.Name x p) es kws pos) (fun σ H Q => t σ H fun all H1 => tr (all ++ dvs) H1 Q (WE W σ)) :=
  ⟨fun pins s σ H Q I h => wpAny_Call_Name_kw (ld_glob I hg hm (PySem.W.callWith_of ha.plain (PySem.W.keeps_K hk) (thn (ha.run I h) fun a s1 hh => by
    obtain ⟨us, ws, all, H1, rfl, l1, l2, I1, rv, q⟩ := hh
    exact ⟨I1.kIn, r I1 l1 l2 rv q⟩)) hdb)⟩
def callA (F : List Sl → RS) (m : Nat) (idx : List Nat) (dds ds : List D) : R D := if (pick idx (ds ++ dds)).length = m then callV F (pick idx (ds ++ dds)) else .st
theorem dp_callA {m : Nat} (c : CalA X W x n ks dds (fun all H Q E => spD X.K m F (pick idx all) H Q E)) (ha : DArg X W pos es kws n ks g) : DP X W (.Call (.Name x p) es kws pos) (pA (callA F m idx dds) g) := by
  obtain ⟨c', dvs, hm, hk, hdd, hr⟩ := c.ex
  exact ⟨PE.conseq (pe_callA (tr := fun all H Q E => spD X.K m F (pick idx all) H Q E) (dvs := dvs) (W := W) hm hk c.gl c.db hr ha.aa) fun σ H Q ⟨θ, G, ρ, Ws, q⟩ => ⟨θ, G, ρ, Ws, (Pk.ak q).imp fun vs H1 ⟨ds, G1, _, e1, z, q1⟩ => by
    unfold callA at q1
    split at q1
    · rename_i hl
      exact call_pk (Z := Zc) hl ((z.append (hdd G1)).pick idx) q1
    · exact q1.no⟩⟩
end

/-! ### new things of one's own, of any kind -/
def Gk (K : Fg) (W : WX) (σ : L2.St) (θ : Nat → Addr) (G : Hp) (ρ : List Sl) (Ws : List Addr) (H : Hp) (r : R Ow) (Q : VK) : Prop :=
  Stt K θ G H σ ρ Ws ∧ match r with
    | .ok o => ∀ v fp G' H', Ext G H G' H' → Own K G' H' v o fp → fp.Nodup → (∀ a ∈ fp, H a = none) → (∀ a ∈ fp, G' a = none) → Q v H'
    | .ex x => ∀ d G' H', Ext G H G' H' → XkOk K G' H' x d → W (.ref x.cls) d σ H'
    | .st => False
def tG (K : Fg) (W : WX) (g : List Sl → R Ow) : TE := fun σ H Q => ∃ θ G ρ Ws, Gk K W σ θ G ρ Ws H (g ρ) Q
structure DG (X : Cx) (W : WX) (e : Expr) (g : List Sl → R Ow) : Prop where
  run : PE X e (tG X.K W g)
theorem Gk.ext {K : Fg} {σ : L2.St} {θ : Nat → Addr} {G H G1 H1 : Hp} {ρ : List Sl} {Ws : List Addr} {r : R Ow} {Q : VK} (h : Gk K W σ θ G ρ Ws H r Q) (e : Ext G H G1 H1) : Gk K W σ θ G1 ρ Ws H1 r Q := by
  refine ⟨h.1.ext e, ?_⟩
  have h2 := h.2
  cases r with
  | ok o => exact fun v fp G' H' e' z n m g => h2 v fp G' H' (e.trans e') z n (fun a ha => e.h.free (m a ha)) g
  | ex x => exact fun v G' H' e' z => h2 v G' H' (e.trans e') z
  | st => exact h2
/-- frozen at once -/
def pFrz (g : List Sl → R Ow) (ρ : List Sl) : R D := (g ρ).bind fun o => if o.can then .ok o.d else .st
theorem Ext.frzAll {G H G' H' : Hp} {fp : List Addr} (e : Ext G H G' H') (h0 : ∀ a ∈ fp, H a = none) (g0 : ∀ a ∈ fp, G' a = none) : Ext G H (DL.frz G' H' fp) H' := by
  refine ⟨e.g.trans (frz_g g0), e.h, frz_s e.s, fun a o q => ?_⟩
  unfold DL.frz at q
  by_cases ha : a ∈ fp
  · exact .inr (h0 a ha)
  · rw [if_neg ha] at q; exact e.nw a o q
theorem DG.dp {X : Cx} {e : Expr} {g : List Sl → R Ow} (h : DG X W e g) : DP X W e (pFrz g) := ⟨PE.conseq h.run fun σ H Q ⟨θ, G, ρ, Ws, S, q⟩ => ⟨θ, G, ρ, Ws, S, by
  unfold pFrz at q
  cases hg : g ρ with
  | st => rw [hg] at q; exact q
  | ex x => rw [hg] at q; exact q
  | ok o =>
    rw [hg] at q
    intro v fp G' H' e z n m g0
    have q : match (if o.can then R.ok o.d else .st) with | .ok d => ∀ v G' H', Ext G H G' H' → Zc X.K G' H' v d → Q v H' | .ex x => ∀ d G' H', Ext G H G' H' → XkOk X.K G' H' x d → W (.ref x.cls) d σ H' | .st => False := q
    by_cases hc : o.can = true
    · rw [if_pos hc] at q
      exact q v _ H' (e.frzAll m g0) (z.frz hc g0)
    · rw [if_neg hc] at q; exact q.elim⟩⟩
def gLst (g : List Sl → R D) (ρ : List Sl) : R Ow := (g ρ).bind fun d => match d with
  | .lst ds => .ok (.lst ds)
  | _ => .st
theorem DF.dg {X : Cx} {e : Expr} {g : List Sl → R D} (h : DF X W e g) : DG X W e (gLst g) := ⟨PE.conseq h.run fun σ H Q ⟨θ, G, ρ, Ws, S, q⟩ => ⟨θ, G, ρ, Ws, S, by
  unfold gLst at q
  cases hg : g ρ with
  | st => rw [hg] at q; exact q
  | ex x => rw [hg] at q; exact q
  | ok d =>
    rw [hg] at q
    cases d with
    | lst ds => exact fun p vs G' H' e hp gp hp' r => q (.ref p) [p] G' H' e (.lst hp' r) (by simp) (fun a ha => by rw [List.mem_singleton.mp ha]; exact hp) (fun a ha => by rw [List.mem_singleton.mp ha]; exact gp)
    | _ => exact q⟩⟩
/-- a name is to own it -/
def sOwnG (i : Nat) (g : List Sl → R Ow) (ρ : List Sl) : RS := match g ρ with
  | .ok o => if i < ρ.length then .ok .nx (ρ.set i (.own 0 o)) else .st
  | .ex x => .ex x ρ
  | .st => .st
theorem ds_ownG' {X : Cx} {s : Stmt} {g : List Sl → R Ow} {i : Nat} (hp : PS X s (tAsg (tG X.K W g) (gName i))) : DS X W s (sOwnG i g) :=
  ⟨PS.conseq hp fun E σ H ⟨θ, G, ρ, Ws, S, q⟩ => ⟨θ, G, ρ, Ws, S, by
    unfold sOwnG at q
    cases hv : g ρ with
    | st => rw [hv] at q; exact q
    | ex x => rw [hv] at q; exact fun d G' H' e' z => q d σ G' H' Ws (Fr.of e') (S.ext e') z
    | ok o =>
      rw [hv] at q
      have q : Fin X.K W θ G H Ws (if i < ρ.length then .ok .nx (ρ.set i (.own 0 o)) else .st) E := q
      split at q
      · rename_i hi
        intro v fp G' H' e' z n m g0
        obtain ⟨W', S', mem⟩ := (S.ext e').putOwn (i := i) hi z n (fun a ha y => by
          obtain ⟨u, hu⟩ := S.sts.in_ a y
          rw [m a ha] at hu; cases hu) g0
        exact q _ G' H' W' ⟨e'.g, fun a o h _ => e'.h a o h, fun a ha => (mem a ha).elim (fun y => .inr (m a y)) .inl, fun a o h => (e'.nw a o h).elim .inl fun z => .inr (.inr z), al_same e'.h⟩ S'
      · exact q.elim⟩⟩
theorem ds_ownG {X : Cx} {s : Stmt} {e : Expr} {g : List Sl → R Ow} {i : Nat} (he : DG X W e g) (hps : ∀ te, PE X e te → PS X s (tAsg te (gName i))) : DS X W s (sOwnG i g) := ds_ownG' (hps _ he.run)
/-! ### instances made -/
def mkR : RS → R Ow
  | .ok (.rt .non) (.own 1 (.ins C' fs) :: _) => .ok (.ins C' fs)
  | .ex x _ => .ex x
  | _ => .st
theorem mkR_ok {r : RS} {o : Ow} (h : mkR r = .ok o) : ∃ C' fs rest, r = .ok (.rt .non) (.own 1 (.ins C' fs) :: rest) ∧ o = .ins C' fs := by
  unfold mkR at h
  split at h
  · cases h; exact ⟨_, _, _, rfl, rfl⟩
  · cases h
  · cases h
theorem mkR_ex {r : RS} {x : Exn} (h : mkR r = .ex x) : ∃ ρ, r = .ex x ρ := by
  unfold mkR at h
  split at h
  · cases h
  · cases h; exact ⟨_, rfl⟩
  · cases h
def mkD (F : List Sl → RS) (C : Addr) (m : Nat) (idx : List Nat) (dds ds : List D) : R Ow := if (pick idx (ds ++ dds)).length + 1 = m then mkR (F (.own 1 (.ins C []) :: (pick idx (ds ++ dds)).map .val)) else .st
def pAO (f : List D → R Ow) (g : List Sl → R (List D)) (ρ : List Sl) : R Ow := (g ρ).bind f
theorem dg_make {X : Cx} {C : Addr} {x : Str} {n : Nat} {ks : List Str} {m : Nat} {dds : List D} {idx : List Nat} {F : List Sl → RS} {p pos : Pos} {es : List Expr} {kws : List Keyword} {g : List Sl → R (List D)}
    (c : CalA X W x n ks dds (fun all H Q E => ∀ y dx, H y = none → H dx = none → dx ≠ y → spD X.K m F (.ref y :: pick idx all) (upd (upd H dx (.own y)) y (.ins C dx [])) (fun v H2 => v = .non ∧ Q (.ref y) H2) E)) (ha : DArg X W pos es kws n ks g) :
    DG X W (.Call (.Name x p) es kws pos) (pAO (mkD F C m idx dds) g) := by
  obtain ⟨c', dvs, hm, hk, hdd, hr⟩ := c.ex
  refine ⟨PE.conseq (pe_callA (tr := fun all H Q E => ∀ y dx, H y = none → H dx = none → dx ≠ y → spD X.K m F (.ref y :: pick idx all) (upd (upd H dx (.own y)) y (.ins C dx [])) (fun v H2 => v = .non ∧ Q (.ref y) H2) E) (dvs := dvs) (W := W) hm hk c.gl c.db hr ha.aa) fun σ H Q ⟨θ, G, ρ, Ws, S, q⟩ => ⟨θ, G, ρ, Ws, S, ?_⟩⟩
  unfold pAO at q
  cases hg : g ρ with
  | st => rw [hg] at q; exact q
  | ex x => rw [hg] at q; exact q
  | ok ds =>
    rw [hg] at q
    intro vs G1 H1 e1 z y dx hy hdx hne
    have q : Gk X.K W σ θ G1 ρ Ws H1 (mkD F C m idx dds ds) Q := Gk.ext ⟨S, q⟩ e1
    have S1 := q.1
    have s1 := S1.same
    have q2 := q.2
    unfold mkD at q2
    by_cases hl : (pick idx (ds ++ dds)).length + 1 = m
    · rw [if_pos hl] at q2
      have gy : G1 y = none := s1.free hy
      have gdx : G1 dx = none := s1.free hdx
      have ra := (z.append (hdd G1)).pick idx
      have s2 : Same G1 (upd (upd H1 dx (.own y)) y (.ins C dx [])) := fun b u e => by
        rw [upd_ne (ne_of_none e gy), upd_ne (ne_of_none e gdx)]; exact s1 b u e
      have st : Stt X.K (fun _ => y) G1 (upd (upd H1 dx (.own y)) y (.ins C dx [])) ((V.ref y :: pick idx (vs ++ dvs)).map some) (.own 1 (.ins C []) :: (pick idx (ds ++ dds)).map .val) [y, dx] := by
        have := Sts.own (θ := fun _ => y) (t := 1) (Own.ins (K := X.K) (G := G1) (H := upd (upd H1 dx (.own y)) y (.ins C dx [])) (C := C) (fs := []) upd_same (by rw [upd_ne hne, upd_same]) .nil) (.inr rfl) (Sts.vals (H := upd (upd H1 dx (.own y)) y (.ins C dx [])) ra)
        rw [List.append_nil] at this
        exact ⟨s2, this, by simp [Ne.symm hne], fun a ha => by
          simp at ha
          rcases ha with rfl | rfl
          · exact gy
          · exact gdx⟩
      refine ⟨by rw [List.length_cons, ra.length]; exact hl, fun _ => y, G1, _, [y, dx], st, ?_⟩
      have old : ∀ a o, H1 a = some o → (upd (upd H1 dx (.own y)) y (.ins C dx [])) a = some o ∧ a ∉ [y, dx] := fun a o h => by
        have n1 : a ≠ y := ne_of_none h hy
        have n2 : a ≠ dx := ne_of_none h hdx
        exact ⟨by rw [upd_ne n1, upd_ne n2]; exact h, by simp [n1, n2]⟩
      have fresh : ∀ a, a ∈ [y, dx] ∨ (upd (upd H1 dx (.own y)) y (.ins C dx [])) a = none → H1 a = none := fun a ha => by
        rcases ha with ha | ha
        · simp at ha
          rcases ha with rfl | rfl
          · exact hy
          · exact hdx
        · cases q : H1 a with
          | none => rfl
          | some o => rw [(old a o q).1] at ha; cases ha
      have ex : ∀ {G' H' : Hp} {W' : List Addr}, Fr G1 (upd (upd H1 dx (.own y)) y (.ins C dx [])) [y, dx] G' H' W' → Same G' H' → Ext G1 H1 G' H' := fun {G' H' W'} fr s => ⟨fr.g, fun a o h => fr.k a o (old a o h).1 (old a o h).2, s, fun a o h => by
        rcases fr.n a o h with z | z | z
        · exact .inl z
        · exact .inr (fresh a (.inl z))
        · exact .inr (fresh a (.inr z))⟩
      cases hm : mkR (F (.own 1 (.ins C []) :: (pick idx (ds ++ dds)).map .val)) with
      | st => rw [hm] at q2; exact q2.elim
      | ex x =>
        rw [hm] at q2
        obtain ⟨ρ', hF⟩ := mkR_ex hm
        rw [hF]
        exact fun d G' H' W' fr S' xk => q2 d G' H' (ex fr S'.same) xk
      | ok o =>
        rw [hm] at q2
        obtain ⟨C', fs, rest, hF, rfl⟩ := mkR_ok hm
        rw [hF]
        intro v G' H' W' fr S' rv
        cases rv
        refine ⟨rfl, ?_⟩
        obtain ⟨a1, a2, a3, a4⟩ := S'
        generalize hσ : (V.ref y :: pick idx (vs ++ dvs)).map some = σ' at a2
        cases a2 with
        | @own v2 t2 o2 fp2 σ2 ρ2 W3 r2 tt2 rest2 =>
          have ev : v2 = V.ref y := by
            have := hσ
            simp at this
            exact this.1.symm
          subst ev
          exact q2 _ fp2 G' H' (ex fr a1) r2 (List.nodup_append.mp a3).1 (fun a ha => fresh a (fr.w a (List.mem_append_left _ ha))) (fun a ha => a4 a (List.mem_append_left _ ha))
    · rw [if_neg hl] at q2; exact q2.elim
end DL

set_option Elab.async false
set_option linter.all false
set_option maxRecDepth 100000
set_option maxHeartbeats 2000000
/-! The data layer, thirteenth part: instances: attributes, properties, isinstance; a new thing handed on; lists of new lists. -/
namespace DL
open PySem PySem.Spec PyProof.Rows L2

/-! ### attributes -/
def putD (f : Str) (v : D) : List (Str × D) → List (Str × D)
  | [] => [(f, v)]
  | (g, x) :: r => if g = f then (g, v) :: r else (g, x) :: putD f v r
theorem RpF.put {K : Fg} {G : Hp} {vs : List (Str × V)} {ds : List (Str × D)} (r : RpF K G vs ds) {f : Str} {v : V} {d : D} (h : Rp K G v d) : RpF K G (putF f v vs) (putD f d ds) := by
  induction ds generalizing vs with
  | nil => cases r; exact .cons h .nil
  | cons p ds ih => cases r with
    | @cons k v0 d0 vs' ds' r t =>
      unfold putF putD
      by_cases hk : k = f
      · rw [if_pos hk, if_pos hk]; exact .cons h t
      · rw [if_neg hk, if_neg hk]; exact .cons r (ih t)
theorem RpF.length {K : Fg} {G : Hp} {vs : List (Str × V)} {ds : List (Str × D)} (r : RpF K G vs ds) : vs.length = ds.length := by
  induction ds generalizing vs with
  | nil => cases r; rfl
  | cons p ds ih => cases r with
    | cons r t => simp [ih t]
def fldD (C : Addr) (f : Str) : D → R D
  | .ins C' fs => if C' = C then (match fs.lookup f with | some d => .ok d | none => .st) else .st
  | _ => .st
/-- the attribute of a name that may own its instance -/
def pFldO (C : Addr) (f : Str) (i : Nat) (ρ : List Sl) : R D := match ρ[i]? with
  | some (.val d) => fldD C f d
  | some (.own _ (.ins C' fs)) => fldD C f (.ins C' fs)
  | _ => .st
section
variable {X : Cx} {W : WX} {e a b : Expr} {f : Str} {pos pos' : Pos} {g fa : List Sl → R D} {C : Addr} {Za : ZK}
theorem dp_fld (c : Cls X.K C) (n : NoAttr X.K C f) (h : DP X W e g) (hb : attributeBase e f X.env (eval e X.env) = eval e X.env := by rfl) : DP X W (.Attribute e f pos) (p1 (fldD C f) g) :=
  ⟨PE.conseq (pe_fld h.run hb) fun σ H Q h => tZ_1 (r := fun x H1 Q => ∃ a C dx fs v, x = .ref a ∧ H1 a = some (.ins C dx fs) ∧ Cls X.K C ∧ NoAttr X.K C f ∧ fs.lookup f = some v ∧ Q v H1) (Za := Zc) (by
    intro W σ θ G ρ Ws H x a Q hx q
    unfold fldD at q
    split at q
    · split at q
      · rename_i hC
        split at q
        · rename_i d hd
          cases hx with
          | ins h1 h2 r =>
            obtain ⟨v, hv, rv⟩ := r.look hd
            exact ⟨_, _, _, _, v, rfl, q.same _ _ h1, hC ▸ c, hC ▸ n, hv, q.val rv⟩
        · exact q.no
      · exact q.no
    · exact q.no) h⟩
theorem dp_fldO {i : Nat} {x : Str} {px : Pos} (c : Cls X.K C) (n : NoAttr X.K C f) (h : PE X (.Name x px) (tVar i)) (hb : attributeBase (.Name x px) f X.env (eval (.Name x px) X.env) = eval (.Name x px) X.env := by rfl) : DP X W (.Attribute (.Name x px) f pos) (pFldO C f i) :=
  ⟨PE.conseq (pe_fld h hb) fun σ H Q ⟨θ, G, ρ, Ws, q⟩ => by
    unfold pFldO at q
    split at q
    · rename_i d hd
      obtain ⟨v, h1, rv⟩ := q.1.sts.val_at hd
      unfold fldD at q
      split at q
      · split at q
        · rename_i hC
          split at q
          · rename_i d hd
            cases rv with
            | ins h1' h2 r =>
              obtain ⟨u, hu, ru⟩ := r.look hd
              exact ⟨_, h1, _, _, _, _, u, rfl, q.same _ _ h1', hC ▸ c, hC ▸ n, hu, q.val ru⟩
          · exact q.no
        · exact q.no
      · exact q.no
    · rename_i t C' fs hd
      obtain ⟨v, fp, h1, ro, _⟩ := q.1.sts.own_at hd
      unfold fldD at q
      dsimp only at q
      split at q
      · rename_i hC
        split at q
        · rename_i d hd
          cases ro with
          | ins h1' h2 r =>
            obtain ⟨u, hu, ru⟩ := r.look hd
            exact ⟨_, h1, _, _, _, _, u, rfl, h1', hC ▸ c, hC ▸ n, hu, q.val ru⟩
        · exact q.no
      · exact q.no
    · exact q.no⟩
/-- x.f = e, x a name that owns its instance -/
def sSetF (C : Addr) (f : Str) (i : Nat) (g : List Sl → RE) (ρ : List Sl) : RS := (g ρ).seq fun d ρ1 => match ρ1[i]? with
  | some (.own t (.ins C' fs)) => if C' = C ∧ fs.length < 1000 then .ok .nx (ρ1.set i (.own t (.ins C' (putD f d fs)))) else .st
  | _ => .st
theorem ds_setF {i : Nat} {x : Str} {px : Pos} {value : Expr} {ge : List Sl → RE} (c : Cls X.K C) (n : NoAttr X.K C f) (ho : PE X (.Name x px) (tVar i)) (h : DE X W value ge) (hs : swapsWith value (some (.Attribute (.Name x px) f pos')) pos.line X.env = pure false := by rfl) :
    DS X W (.Assign [.Attribute (.Name x px) f pos'] value pos) (sSetF C f i ge) :=
  ⟨PS.conseq (ps_fld ho h.run hs) fun E σ H ⟨θ, G, ρ, Ws, S, q⟩ => ⟨θ, G, ρ, Ws, S, (Fin.ek q).imp fun v H1 ⟨d, ρ1, G1, W1, fr, S1, z, q1⟩ => by
    split at q1
    · rename_i t C' fs hd
      split at q1
      · rename_i hC
        obtain ⟨v', fp, h1, ro, nd, g0, wr⟩ := S1.write hd
        cases ro with
        | @ins a dx _ vs _ h1' h2 r =>
          have hne : dx ≠ a := by simp at nd; exact Ne.symm nd
          obtain ⟨fr2, S2⟩ := wr a (.ins C' dx (putF f v vs)) (.ins C' (putD f d fs)) (by simp) (.ins upd_same (by rw [upd_ne hne]; exact h2) (r.put z))
          exact ⟨_, h1, a, C', dx, vs, rfl, h1', hC.1 ▸ c, hC.1 ▸ n, by rw [r.length]; exact hC.2, q1 σ G1 _ W1 fr2 S2⟩
      · exact q1.elim
    · exact q1.elim⟩⟩

/-! ### properties -/
def prD (C : Addr) (F : List Sl → RS) (d : D) : R D := match d with
  | .ins C' _ => if C' = C then (match F [.val d] with
    | .ok (.rt r) _ => .ok r
    | _ => .st) else .st
  | _ => .st
/-- the getter of a property -/
structure PropD (P : Program) (w : World) (K : Fg) (mg : Str → Option Value) (base : Heap) (k : Nat) (C : Addr) (f : Str) (F : List Sl → RS) : Prop where
  ex : ∃ p g fd ps, PropOf K C f p g ∧ FnOk P w K mg base (L2.CX P w) k g fd ps (spD K 1 F) ∧ Binds K fd ps []
theorem PropD.mono {P : Program} {w : World} {K : Fg} {mg : Str → Option Value} {base : Heap} {j k : Nat} {C : Addr} {f : Str} {F : List Sl → RS} (h : PropD P w K mg base j C f F) (hk : j ≤ k) : PropD P w K mg base k C f F :=
  let ⟨p, g, fd, ps, a, b, c⟩ := h.ex; ⟨p, g, fd, ps, a, b.mono hk, c⟩
theorem dp_prop {k : Nat} {F : List Sl → RS} (c : Cls X.K C) (hp : PropD X.prog X.w X.K X.mg X.base k C f F) (hr : Room (k + 1) X.A) (h : DP X W e g) (hb : attributeBase e f X.env (eval e X.env) = eval e X.env := by rfl) : DP X W (.Attribute e f pos) (p1 (prD C F) g) := by
  obtain ⟨p, ga, fd, ps, hP, hF, hB⟩ := hp.ex
  refine ⟨PE.conseq (pe_prop (E := fun _ _ _ => False) h.run c hP hF hr hB .nil (fun pins σ H s e s' I c => (endCX c).elim) hb) fun σ H Q h => tZ_1 (r := fun x H1 Q => ∃ a dx fs, x = .ref a ∧ H1 a = some (.ins C dx fs) ∧ spD X.K 1 F (.ref a :: []) H1 Q fun _ _ _ => False) (Za := Zc) (by
    intro W σ θ G ρ Ws H x a Q hx q
    unfold prD at q
    split at q
    · rename_i C' fs
      split at q
      · rename_i hC
        subst hC
        have hx' := hx
        cases hx with
        | @ins a C dx vs fs h1 h2 r =>
          refine ⟨a, dx, vs, rfl, q.same _ _ h1, rfl, θ, G, [.val (.ins C' fs)], [], Stt.vals q.same (.cons hx' .nil), ?_⟩
          split at q
          · rename_i rr ρ' hF
            rw [hF]
            exact fun v G' H' W' fr S z => q.2 v G' H' (fr.ext S.same) z
          · exact q.2.elim
      · exact q.no
    · exact q.no) h⟩

/-! ### isinstance of an own class -/
structure ClsI (K : Fg) (C : Addr) : Prop where
  c : Cls K C
  ha : PySem.W.findIn K (.ref C) "__class__" = some (some (.builtin "object.__class__"))
  hn : PySem.W.specialIn K (.builtin "object.__class__") "__get__" = some (some (.builtin "getset_descriptor.__get__"))
  htk : PySem.W.takesIn K (.builtin "object.__class__") = some true
  hm : PySem.W.mroIn K C (.type "object") = some true
def D.ty (cs : List Addr) : D → Option Value
  | .non => some (.type "NoneType")
  | .bl _ => some (.type "bool")
  | .int _ => some (.type "int")
  | .str _ => some (.type "str")
  | .tup _ => some (.type "tuple")
  | .lst _ => some (.type "list")
  | .dct _ => some (.type "dict")
  | .ins C _ => if C ∈ cs then some (.ref C) else none
  | .scr _ => none
def isCD (K : Fg) (cs : List Addr) (C : Addr) (d : D) : R D := match d.ty cs with
  | some t => (match PySem.W.kitOne K t (.ref C) with
    | some b => .ok (.bl b)
    | none => .st)
  | none => .st
theorem ty_of {K : Fg} {cs : List Addr} {H : Hp} {x : V} {d : D} {t : Value} (hC : ∀ C ∈ cs, ClsI K C) (h : Rp K H x d) (e : d.ty cs = some t) : TyX K H x t := by
  cases h with
  | non => cases e; exact .base .non
  | bl c => cases e; exact .base (.bl c)
  | int c => cases e; exact .base (.int c)
  | str c => cases e; exact .base (.str c)
  | tup h r =>
    cases e
    rcases h with ⟨o, h, _⟩ | ⟨o, its, n, h, hc, _⟩
    · exact .fTuple h
    · exact .kTuple h hc
  | lst h r => cases e; exact .base (.lst h)
  | scr h => cases e
  | dct h r => cases e; exact .base (.dK h)
  | ins h1 h2 r =>
    rename_i a C dx vs ds
    have e : (if C ∈ cs then some (Value.ref C) else none) = some t := e
    by_cases hc : C ∈ cs
    · rw [if_pos hc] at e
      cases e
      have k := hC _ hc
      exact .base (.ins h1 k.c k.ha k.hn k.htk k.hm)
    · rw [if_neg hc] at e; cases e
theorem od_isC {K : Fg} {cs : List Addr} {C : Addr} (hC : ∀ C ∈ cs, ClsI K C) : Op1 K Zd (fun x H Q => rIsi K [x, .ref C] H Q) (isCD K cs C) := by
  intro W σ θ G ρ Ws H x a Q hx q
  unfold isCD at q
  split at q
  · rename_i t ht
    split at q
    · rename_i b hb
      exact ⟨x, .ref C, t, _, b, rfl, .own C, ty_of hC hx ht, hb, q.val (.bl _)⟩
    · exact q.no
  · exact q.no
/-- isinstance(e, C) -/
theorem dp_isC [ZOk Za] {cs : List Addr} {y : Str} {py p : Pos} (hC : ∀ C ∈ cs, ClsI X.K C) (h : DZ Za X W e g) (hy : PE X (.Name y py) (tC (.ref C))) (hpe : ∀ t, PA X [e, .Name y py] t → PE X a (tCB (rIsi X.K) t))
    (hs : starEach [e, .Name y py] X.env = (false, eval e X.env) :: starEach [.Name y py] X.env := by rfl) (hs2 : starEach [.Name y py] X.env = (false, eval (.Name y py) X.env) :: starEach [] X.env := by rfl) : DP X W a (p1 (isCD X.K cs C) g) :=
  ⟨PE.conseq (hpe _ (pa_cons h.dirty.run (pa_cons hy pa_nil hs2) hs)) fun σ H Q h => tZ_1 (r := fun x H1 Q => rIsi X.K [x, .ref C] H1 Q) (Za := Zd) (od_isC hC) h⟩

/-! ### a new thing is handed on -/
def pCallF (F : List Sl → RS) (ga : List Sl → R Ow) (ρ : List Sl) : R D := (ga ρ).bind fun o => match F [.own 0 o] with
  | .ok (.rt d) _ => .ok d
  | .ex x _ => .ex x
  | _ => .st
theorem dp_callF {x : Str} {y : Str} {F : List Sl → RS} {ga : List Sl → R Ow} {p : Pos} (cl : Cal X W x [y] F) (ha : DG X W a ga)
    (he : starEach [a] X.env = (false, eval a X.env) :: starEach [] X.env := by rfl) (hpl : (backTo pos (starEach [] X.env)).any (·.1) = false := by rfl) : DP X W (.Call (.Name x p) [a] [] pos) (pCallF F ga) :=
  ⟨PE.conseq (cl (pa_cons ha.run pa_nil he) he hpl) fun σ H Q ⟨θ, G, ρ, Ws, S, q⟩ => ⟨θ, G, ρ, Ws, S, by
    unfold pCallF at q
    cases hg : ga ρ with
    | st => rw [hg] at q; exact q
    | ex x => rw [hg] at q; exact q
    | ok o =>
      rw [hg] at q
      intro v fp G1 H1 e1 z n m g0
      refine ⟨rfl, θ, G1, [.own 0 o], fp, ⟨e1.s, by simpa using Sts.own (θ := θ) z (.inl rfl) (Sts.nil (K := X.K) (G := G1) (H := H1)), n, g0⟩, ?_⟩
      have ex : ∀ {G' H' : Hp} {W' : List Addr}, Fr G1 H1 fp G' H' W' → Same G' H' → Ext G H G' H' := fun {G' H' W'} fr s => ⟨e1.g.trans fr.g, fun a u h => fr.k a u (e1.h a u h) (fun z => by rw [m a z] at h; cases h), s, fun a u h => by
        rcases fr.n a u h with z | z | z
        · exact e1.nw a u z
        · exact .inr (m a z)
        · exact .inr (e1.h.free z)⟩
      have q : match (match F [.own 0 o] with | .ok (.rt d) _ => R.ok d | .ex x _ => .ex x | _ => .st) with | .ok d => ∀ v G' H', Ext G H G' H' → Zc X.K G' H' v d → Q v H' | .ex x => ∀ d G' H', Ext G H G' H' → XkOk X.K G' H' x d → W (.ref x.cls) d σ H' | .st => False := q
      cases hF : F [.own 0 o] with
      | st => rw [hF] at q; exact q
      | ex x ρ' => rw [hF] at q; exact fun d G' H' W' fr S' xk => q d G' H' (ex fr S'.same) xk
      | ok fl ρ' =>
        rw [hF] at q
        cases fl with
        | rt d => exact fun v G' H' W' fr S' r => q v G' H' (ex fr S'.same) r
        | rtO o => exact q.elim
        | nx => exact q
        | bk => exact q
        | ct => exact q⟩⟩
end

/-! ### lists of new lists -/
def lst? : D → R (List D)
  | .lst ds => .ok ds
  | _ => .st
def llGo (f : D → List Sl → Option (List Sl)) (t : List Sl → R Bool) (g : List Sl → R D) (ρ : List Sl) : List D → R (List (List D))
  | [] => .ok []
  | d :: ds => match f d ρ with
    | none => .st
    | some ρ1 => (t ρ1).bind fun b => if b then (g ρ1).bind fun y => (lst? y).bind fun y => (llGo f t g ρ ds).bind fun ys => .ok (y :: ys) else llGo f t g ρ ds
def mkLL (dss : List (List D)) : R Ow := if fits dss then .ok (.ll dss) else .st
def gLl (src : List Sl → R (List D)) (vs : List Nat) (f : D → List Sl → Option (List Sl)) (t : List Sl → R Bool) (g : List Sl → R D) (ρ : List Sl) : R Ow :=
  (src ρ).bind fun items => (noEx (llGo f t g (wipeS ρ vs) items)).bind mkLL
section
variable {X : Cx} {W : WX} {elt tg iter : Expr} {ifs : List Expr} {scope : Scope} {own : List (Str × Nat)} {pos : Pos} {src : List Sl → R (List D)} {vs : List Nat} {f : D → List Sl → Option (List Sl)} {t : List Sl → R Bool} {g : List Sl → R D}
theorem LLs.append {K : Fg} {G H : Hp} {as bs : List Addr} {ds es : List (List D)} (h : LLs K G H as ds) (h' : LLs K G H bs es) : LLs K G H (as ++ bs) (ds ++ es) := by
  induction h with
  | nil => exact h'
  | cons h r _ ih => exact .cons h r ih
theorem ll_turns {gg : TG} {K : Fg} {Pz : PZ} (hg : TgOk K Pz gg vs f) {us : List Nat} (hv : ∀ i ∈ vs, i ∈ us) {θ : Nat → Addr} {G H : Hp} {σ : L2.St} {ρ : List Sl} {Ws : List Addr} (S : Stt K θ G H σ ρ Ws) {items : List D} {all : List (List D)}
    (hall : llGo f t g (wipeS ρ us) items = .ok all) (hfit : all.length ≤ sizeLine) {J : It} (hJ : GoesD K Pz J G items) {D0 : Addr} (hD : H D0 = none) {Q : VK}
    (q : ∀ p as G' H', Ext G H G' H' → H' p = some (.lst (as.map V.ref)) → LLs K G' H' as all → (p :: as).Nodup → (∀ a ∈ p :: as, H a = none ∧ G' a = none) → Q (.ref p) H') :
    ∃ Wi : Nat → Nat → Hp → Prop, (∃ m, Wi 0 m (upd H D0 (.lst []))) ∧ ∀ i m H, Wi i m H →
      (J.stop i H ∧ Q (.ref D0) H) ∨ (J.go i H ∧ ∃ Nx : Hp → Prop, (∀ H', Nx H' → ∃ m', m' < m ∧ Wi (i + 1) m' H') ∧ ∀ x H', J.yld i H x H' → gg x (L2.wipe σ us) H' fun σ2 H2 => L2.wipe σ2 us = L2.wipe σ us ∧ tT K W0 t σ2 H2 fun b H3 =>
        if b = true then tF K W0 g σ2 H3 fun y H4 => ∃ acc, H4 D0 = some (.lst acc) ∧ acc.length < sizeLine ∧ Nx (upd H4 D0 (.lst (acc ++ [y]))) else Nx H3) := by
  have gD : G D0 = none := S.same.free hD
  have nW : D0 ∉ Ws := fun z => by
    obtain ⟨u, hu⟩ := S.sts.in_ D0 z
    rw [hD] at hu; cases hu
  let Wi : Nat → Nat → Hp → Prop := fun i m H1 => m = items.length - i ∧ i ≤ items.length ∧ ∃ G1 as ys zs, Ext G H G1 H1 ∧ G1 D0 = none ∧ H1 D0 = some (.lst (as.map V.ref)) ∧ LLs K G1 H1 as ys ∧ (D0 :: as).Nodup ∧ (∀ a ∈ as, H a = none ∧ G1 a = none) ∧
    llGo f t g (wipeS ρ us) (items.drop i) = .ok zs ∧ all = ys ++ zs ∧ Stt K θ G1 H1 σ ρ Ws
  refine ⟨Wi, ⟨items.length, rfl, Nat.zero_le _, G, [], [], all, (Ext.refl S.same).updD hD gD, gD, upd_same, .nil, by simp, (fun a ha => by cases ha), by simpa using hall, rfl, S.aside nW gD⟩, ?_⟩
  rintro i m H1 ⟨rfl, hi, G1, as, ys, zs, e1, g1, h1, ra, nd, fr, hz, ea, S1⟩
  by_cases hlt : i < items.length
  · refine .inr ?_
    obtain ⟨d, hd⟩ : ∃ d, items[i]? = some d := ⟨_, List.getElem?_eq_getElem hlt⟩
    obtain ⟨go, yl⟩ := (hJ i G1 H1 e1.g S1.same).1 d hd
    have hdr : items.drop i = d :: items.drop (i + 1) := by
      rw [List.drop_eq_getElem_cons hlt]
      rw [List.getElem?_eq_getElem hlt] at hd
      cases hd; rfl
    rw [hdr] at hz
    refine ⟨go, Wi (i + 1) (items.length - (i + 1)), fun H' w' => ⟨_, by omega, w'⟩, fun x H' y => ?_⟩
    obtain ⟨G2, e2, rx⟩ := yl x H' y
    unfold llGo at hz
    cases hf : f d (wipeS ρ us) with
    | none => rw [hf] at hz; cases hz
    | some ρ2 =>
      rw [hf] at hz
      have hz : ((t ρ2).bind fun b => if b then (g ρ2).bind fun y => (lst? y).bind fun y => (llGo f t g (wipeS ρ us) (items.drop (i + 1))).bind fun ys => .ok (y :: ys) else llGo f t g (wipeS ρ us) (items.drop (i + 1))) = .ok zs := hz
      have S2 := S1.ext e2
      obtain ⟨Wp, Sw, sbw⟩ := S2.wipe us
      refine hg Sw rx hf fun σ2 W2 S3 sb3 wq => ⟨(wq us hv).trans ?_, ?_⟩
      · have idem : ∀ (ws : List Nat) (τ : L2.St), (∀ i ∈ ws, i ∈ us) → L2.wipe (L2.wipe τ ws) us = L2.wipe τ us := by
          intro ws
          induction ws with
          | nil => intro τ _; rfl
          | cons w ws ih =>
            intro τ hw
            show L2.wipe ((L2.wipe τ ws).set w none) us = _
            rw [wipe_set (hw w List.mem_cons_self)]
            exact ih τ fun i hi => hw i (List.mem_cons_of_mem _ hi)
        exact idem us σ fun _ h => h
      · cases ht : t ρ2 with
        | st => rw [ht] at hz; cases hz
        | ex x => rw [ht] at hz; cases hz
        | ok b =>
          rw [ht] at hz
          refine ⟨θ, G2, ρ2, W2, S3, ?_⟩
          rw [ht]
          intro G3 H3 e3
          have e13 := e2.trans e3
          have freeG : ∀ {G4 H4 : Hp}, Ext G1 H1 G4 H4 → ∀ a u, H1 a = some u → G1 a = none → G4 a = none := fun {G4 H4} e a u h g => by
            cases q3 : G4 a with
            | none => rfl
            | some u' =>
              rcases e.nw a u' q3 with z | z
              · rw [g] at z; cases z
              · rw [h] at z; cases z
          have g3 : G3 D0 = none := freeG e13 D0 _ h1 g1
          have h3 : H3 D0 = some (.lst (as.map V.ref)) := e13.h _ _ h1
          have fr3 : ∀ {G4 H4 : Hp}, Ext G1 H1 G4 H4 → ∀ a ∈ as, H a = none ∧ G4 a = none := fun {G4 H4} e a ha => by
            obtain ⟨u, hu⟩ := ra.in_ a ha
            exact ⟨(fr a ha).1, freeG e a u hu (fr a ha).2⟩
          cases b with
          | false =>
            refine iteF ⟨rfl, hlt, G3, as, ys, zs, e1.trans e13, g3, h3, ra.ext e13, nd, fr3 e13, hz, ea, S1.ext e13⟩
          | true =>
            refine iteT ?_
            have hz : ((g ρ2).bind fun y => (lst? y).bind fun y => (llGo f t g (wipeS ρ us) (items.drop (i + 1))).bind fun ys => .ok (y :: ys)) = .ok zs := hz
            cases hgv : g ρ2 with
            | st => rw [hgv] at hz; cases hz
            | ex x => rw [hgv] at hz; cases hz
            | ok dy =>
              rw [hgv] at hz
              refine ⟨θ, G3, ρ2, W2, S3.ext e3, ?_⟩
              rw [hgv]
              cases dy with
              | lst dy =>
                have hz : ((llGo f t g (wipeS ρ us) (items.drop (i + 1))).bind fun ys => .ok (dy :: ys)) = .ok zs := hz
                intro p vs4 G4 H4 e4 hp gp hp4 ry
                cases hr : llGo f t g (wipeS ρ us) (items.drop (i + 1)) with
                | st => rw [hr] at hz; cases hz
                | ex x => rw [hr] at hz; cases hz
                | ok zs' =>
                  rw [hr] at hz
                  have hz : R.ok (dy :: zs') = .ok zs := hz
                  cases hz
                  have e14 := e13.trans e4
                  have g4 : G4 D0 = none := freeG e14 D0 _ h1 g1
                  have hlen : (as.map V.ref).length < sizeLine := by
                    rw [List.length_map, ra.len]
                    rw [ea, List.length_append, List.length_cons] at hfit
                    omega
                  have pD : p ≠ D0 := fun z => by rw [z, h3] at hp; cases hp
                  have h1p : H1 p = none := e13.h.free hp
                  have p0 : H p = none := e1.h.free h1p
                  have pas : p ∉ as := fun z => by
                    obtain ⟨u, hu⟩ := ra.in_ p z
                    rw [h1p] at hu; cases hu
                  have h4 : H4 D0 = some (.lst (as.map V.ref)) := e14.h _ _ h1
                  have Das : D0 ∉ as := (List.nodup_cons.mp nd).1
                  have hll : LLs K G4 (upd H4 D0 (.lst (as.map V.ref ++ [V.ref p]))) (as ++ [p]) (ys ++ [dy]) := by
                    refine LLs.append ((ra.ext e14).aside Das) (.cons (by rw [upd_ne pD]; exact hp4) ry .nil)
                  refine ⟨as.map V.ref, h4, hlen, rfl, hlt, G4, as ++ [p], ys ++ [dy], zs', (e1.trans e14).updD hD g4, g4, by rw [upd_same]; simp, hll, ?_, ?_, hr, by rw [ea]; simp, (S1.ext e14).aside nW g4⟩
                  · rw [List.nodup_cons] at nd ⊢
                    refine ⟨fun z => ?_, List.nodup_append.mpr ⟨nd.2, by simp, fun a ha b hb => ?_⟩⟩
                    · rcases List.mem_append.mp z with z | z
                      · exact Das z
                      · exact pD (List.mem_singleton.mp z).symm
                    · rw [List.mem_singleton.mp hb]; exact fun z => pas (z ▸ ha)
                  · intro a ha
                    rcases List.mem_append.mp ha with z | z
                    · exact fr3 e14 a z
                    · rw [List.mem_singleton.mp z]; exact ⟨p0, gp⟩
              | _ => cases hz
  · have e : i = items.length := by omega
    subst e
    rw [List.drop_length] at hz
    have hz : R.ok ([] : List (List D)) = .ok zs := hz
    cases hz
    rw [List.append_nil] at ea
    subst ea
    refine .inl ⟨(hJ _ G1 H1 e1.g S1.same).2 (Nat.le_refl _), q D0 as G1 H1 e1 h1 ra nd fun a ha => ?_⟩
    rcases List.mem_cons.mp ha with z | z
    · rw [z]; exact ⟨hD, g1⟩
    · exact fr a z
theorem tLl_ok {gg : TG} {Pz : PZ} (hg : TgOk X.K Pz gg vs f) {us : List Nat} (hv : ∀ i ∈ vs, i ∈ us) {σ : L2.St} {H : Hp} {Q : VK} (h : tG X.K W (gLl src us f t g) σ H Q) :
    tLc (tI X.K Pz W src) gg (tT X.K W0 t) (tF X.K W0 g) us σ H Q := by
  obtain ⟨θ, G, ρ, Ws, S, q⟩ := h
  refine ⟨θ, G, ρ, Ws, S, ?_⟩
  unfold gLl at q
  cases hs : src ρ with
  | st => rw [hs] at q; exact q
  | ex x => rw [hs] at q; exact q
  | ok items =>
    rw [hs] at q
    intro J G1 H1 e1 hJ D0 hD
    cases hl : llGo f t g (wipeS ρ us) items with
    | st => rw [R.bind_ok, hl] at q; exact q.elim
    | ex x => rw [R.bind_ok, hl] at q; exact q.elim
    | ok all =>
      rw [R.bind_ok, hl] at q
      have q : match mkLL all with | .ok o => ∀ v fp G' H', Ext G H G' H' → Own X.K G' H' v o fp → fp.Nodup → (∀ a ∈ fp, H a = none) → (∀ a ∈ fp, G' a = none) → Q v H' | .ex x => ∀ d G' H', Ext G H G' H' → XkOk X.K G' H' x d → W (.ref x.cls) d σ H' | .st => False := q
      unfold mkLL at q
      by_cases hf : fits all = true
      · rw [if_pos hf] at q
        exact ll_turns hg hv (S.ext e1) hl (of_decide_eq_true hf) hJ hD fun p as G' H' e' hp r nd fr => q (.ref p) (p :: as) G' H' (e1.trans e') (.ll hp r) nd (fun a ha => e1.h.free (fr a ha).1) (fun a ha => (fr a ha).2)
      · rw [if_neg hf] at q; exact q.elim
theorem dg_ll (hc : X.calm = true) (hN : X.N.Nodup) {Pz : PZ} (hi : DI X Pz W tg iter src) (ok : BlkOk X.N X.env.scope scope own) {gg : TG}
    (hgP : ∀ (s : Shared) (H : Hp) (C : Addr) (cl : List (Str × Addr)) (fp : List Addr), PG (X.blk s H scope (compEnvC scope cl C X.env) fp) tg gg)
    (hg : TgOk X.K Pz gg vs f) (hv : ∀ i ∈ vs, i ∈ own.map (·.2))
    (ht : ∀ (s : Shared) (H : Hp) (C : Addr) (cl : List (Str × Addr)) (fp : List Addr), DTs (X.blk s H scope (compEnvC scope cl C X.env) fp) W0 ifs t)
    (he : ∀ (s : Shared) (H : Hp) (C : Addr) (cl : List (Str × Addr)) (fp : List Addr), DF (X.blk s H scope (compEnvC scope cl C X.env) fp) W0 elt g)
    (hs : ∀ x, foldedSetIterable iter X.env x = pure x := by intro _; rfl) : DG X W (.ListComp elt [⟨tg, iter, ifs, 0⟩] scope pos) (gLl src (own.map (·.2)) f t g) :=
  ⟨PE.conseq (pe_lc hc hN hi.run ok hgP (fun s H C cl fp => (ht s H C cl fp).run) (fun s H C cl fp => (he s H C cl fp).run) hs) fun σ H Q q => tLl_ok hg hv q⟩
/-- name = [..] on one line -/
theorem ps_lcF (hc : X.calm = true) (hN : X.N.Nodup) {i : Nat} {y : Str} {py spos : Pos} (hy : X.N[i]? = some y) (hyl : X.env.scope.names.lookup y = some .local) (hsw : swapsWith (.ListComp elt [⟨tg, iter, ifs, 0⟩] scope pos) (some (.Name y py)) spos.line X.env = pure true) {Pz : PZ} (hi : DI X Pz W tg iter src) (ok : BlkOk X.N X.env.scope scope own) {gg : TG}
    (hgP : ∀ (s : Shared) (H : Hp) (C : Addr) (cl : List (Str × Addr)) (fp : List Addr), PG (X.blk s H scope (compEnvC scope cl C X.env) fp) tg gg)
    (hg : TgOk X.K Pz gg vs f) (hv : ∀ i ∈ vs, i ∈ own.map (·.2))
    (ht : ∀ (s : Shared) (H : Hp) (C : Addr) (cl : List (Str × Addr)) (fp : List Addr), DTs (X.blk s H scope (compEnvC scope cl C X.env) fp) W0 ifs t)
    (he : ∀ (s : Shared) (H : Hp) (C : Addr) (cl : List (Str × Addr)) (fp : List Addr), DP (X.blk s H scope (compEnvC scope cl C X.env) fp) W0 elt g)
    (hs : ∀ x, foldedSetIterable iter X.env x = pure x := by intro _; rfl) : PS X (.Assign [.Name y py] (.ListComp elt [⟨tg, iter, ifs, 0⟩] scope pos) spos) (tAsg (tF X.K W (pLc src (own.map (·.2)) f t g)) (gName i)) :=
  PS.conseq (ps_setLc hc hN hy hyl hsw hi.run ok hgP (fun s H C cl fp => (ht s H C cl fp).run) (fun s H C cl fp => (he s H C cl fp).run) hs) fun E σ H q => tLc_ok hg hv q
theorem ps_llG (hc : X.calm = true) (hN : X.N.Nodup) {i : Nat} {y : Str} {py spos : Pos} (hy : X.N[i]? = some y) (hyl : X.env.scope.names.lookup y = some .local) (hsw : swapsWith (.ListComp elt [⟨tg, iter, ifs, 0⟩] scope pos) (some (.Name y py)) spos.line X.env = pure true) {Pz : PZ} (hi : DI X Pz W tg iter src) (ok : BlkOk X.N X.env.scope scope own) {gg : TG}
    (hgP : ∀ (s : Shared) (H : Hp) (C : Addr) (cl : List (Str × Addr)) (fp : List Addr), PG (X.blk s H scope (compEnvC scope cl C X.env) fp) tg gg)
    (hg : TgOk X.K Pz gg vs f) (hv : ∀ i ∈ vs, i ∈ own.map (·.2))
    (ht : ∀ (s : Shared) (H : Hp) (C : Addr) (cl : List (Str × Addr)) (fp : List Addr), DTs (X.blk s H scope (compEnvC scope cl C X.env) fp) W0 ifs t)
    (he : ∀ (s : Shared) (H : Hp) (C : Addr) (cl : List (Str × Addr)) (fp : List Addr), DF (X.blk s H scope (compEnvC scope cl C X.env) fp) W0 elt g)
    (hs : ∀ x, foldedSetIterable iter X.env x = pure x := by intro _; rfl) : PS X (.Assign [.Name y py] (.ListComp elt [⟨tg, iter, ifs, 0⟩] scope pos) spos) (tAsg (tG X.K W (gLl src (own.map (·.2)) f t g)) (gName i)) :=
  PS.conseq (ps_setLc hc hN hy hyl hsw hi.run ok hgP (fun s H C cl fp => (ht s H C cl fp).run) (fun s H C cl fp => (he s H C cl fp).run) hs) fun E σ H q => tLl_ok hg hv q
end
end DL

set_option Elab.async false
set_option linter.all false
set_option maxRecDepth 100000
set_option maxHeartbeats 2000000
/-! The data layer, fourteenth part: an element of a list of lists. -/
namespace DL
open PySem PySem.Spec PyProof.Rows L2
/-- x[e1][e2], a list of lists of one's own -/
def pIxLL (i : Nat) (g1 g2 : List Sl → R D) (ρ : List Sl) : R D := match ρ[i]?, g1 ρ, g2 ρ with
  | some (.own _ (.ll dss)), .ok (.int k1), .ok (.int k2) => (match L2.atI dss k1 with
    | some ds => (match L2.atI ds k2 with
      | some d => .ok d
      | none => .st)
    | none => .st)
  | _, _, _ => .st
theorem pIxLL_ok {i : Nat} {g1 g2 : List Sl → R D} {ρ : List Sl} {d : D} (h : pIxLL i g1 g2 ρ = .ok d) : ∃ t dss k1 k2 j1 j2 ds, ρ[i]? = some (.own t (.ll dss)) ∧ g1 ρ = .ok (.int k1) ∧ g2 ρ = .ok (.int k2) ∧ ixN dss.length k1 = some j1 ∧ dss[j1]? = some ds ∧ ixN ds.length k2 = some j2 ∧ ds[j2]? = some d := by
  unfold pIxLL at h
  split at h
  · rename_i t dss k1 k2 h0 hg1 hg2
    split at h
    · rename_i ds hds
      split at h
      · rename_i d' hd
        cases h
        unfold L2.atI at hds hd
        cases hj1 : ixN dss.length k1 with
        | none => rw [hj1] at hds; cases hds
        | some j1 =>
          rw [hj1] at hds
          cases hj2 : ixN ds.length k2 with
          | none => rw [hj2] at hd; cases hd
          | some j2 =>
            rw [hj2] at hd
            exact ⟨t, dss, k1, k2, j1, j2, ds, h0, hg1, hg2, hj1, hds, hj2, hd⟩
      · cases h
    · cases h
  · cases h
theorem pIxLL_ex {i : Nat} {g1 g2 : List Sl → R D} {ρ : List Sl} {x : Exn} (h : pIxLL i g1 g2 ρ = .ex x) : False := by
  unfold pIxLL at h
  split at h
  · split at h
    · split at h <;> cases h
    · cases h
  · cases h
theorem dp_ixLL {X : Cx} {W : WX} {i : Nat} {a e1 e2 : Expr} {g1 g2 : List Sl → R D} {p1 p2 : Pos} (hv : PE X a (tVar i)) (h1 : DP X W e1 g1) (h2 : DP X W e2 g2) (hs1 : PlainIx e1 := by exact fun _ _ => rfl) (hs2 : PlainIx e2 := by exact fun _ _ => rfl) :
    DP X W (.Subscript (.Subscript a e1 p1) e2 p2) (pIxLL i g1 g2) :=
  ⟨PE.conseq (pe_ix ix_list (pe_ix ix_list hv h1.run hs1) h2.run hs2) fun σ H Q ⟨θ, G, ρ, Ws, S, q⟩ => by
    cases hr : pIxLL i g1 g2 ρ with
    | st => rw [hr] at q; exact q.elim
    | ex x => exact (pIxLL_ex hr).elim
    | ok d =>
      rw [hr] at q
      obtain ⟨t, dss, k1, k2, j1, j2, ds, h0, hg1, hg2, hj1, hds, hj2, hd⟩ := pIxLL_ok hr
      obtain ⟨v0, fp0, s1, s2, _⟩ := S.sts.own_at h0
      obtain ⟨a, as, ev, _, ha, hll⟩ := own_ll s2
      subst ev
      refine ⟨_, s1, θ, G, ρ, Ws, S, ?_⟩
      rw [hg1]
      intro u G1 H1 e1 z
      cases z
      obtain ⟨b, vs, hb, hvb, rb⟩ := hll.get hds
      refine ⟨a, as.map V.ref, k1, .ref b, rfl, rfl, SqL.of (e1.h _ _ ha), ?_, θ, G1, ρ, Ws, S.ext e1, ?_⟩
      · unfold L2.atI
        rw [List.length_map, hll.len, hj1]
        show (as.map V.ref)[j1]? = some (V.ref b)
        rw [List.getElem?_map, hb]; rfl
      rw [hg2]
      intro u G2 H2 e2 z
      cases z
      obtain ⟨v, hv, rv⟩ := rb.get hd
      refine ⟨b, vs, k2, v, rfl, rfl, SqL.of ((e1.trans e2).h _ _ hvb), ?_, q v G2 H2 (e1.trans e2) (rv.mono (e1.trans e2).g)⟩
      unfold L2.atI
      rw [rb.length, hj2]
      exact hv⟩
end DL

set_option Elab.async false
set_option linter.all false
set_option maxRecDepth 100000
set_option maxHeartbeats 2000000
/-! The data layer, fifteenth part: sorted lists of ints. -/
namespace DL
open PySem PySem.Spec PyProof.Rows L2
def isort (ns : List Int) : List Int := ns.mergeSort fun a b => decide (a ≤ b)
theorem isort_perm (ns : List Int) : (isort ns).Perm ns := List.mergeSort_perm _ _
theorem isort_pw (ns : List Int) : (isort ns).Pairwise (· ≤ ·) := by
  have := List.pairwise_mergeSort (le := fun a b : Int => decide (a ≤ b)) (fun a b c h1 h2 => by simp at h1 h2 ⊢; omega) (fun a b => by simp; omega) ns
  exact this.imp fun h => by simpa using h
theorem isort_uniq {ns ms : List Int} (h : ms.Perm ns) (p : ms.Pairwise (· ≤ ·)) : ms = isort ns :=
  List.Perm.eq_of_pairwise (le := (· ≤ ·)) (fun a b _ _ h1 h2 => Int.le_antisymm h1 h2) p (isort_pw ns) (h.trans (isort_perm ns).symm)
def sortD : D → R D
  | .lst xs => (match intsO xs with | some ns => .ok (.lst ((isort ns).map .int)) | none => .st)
  | _ => .st
theorem df_sorted {X : Cx} {W : WX} {a e : Expr} {fa : List Sl → R D} (ha : DQ X W a fa) (hpe : ∀ t, PA X [a] t → PE X e (tCB (rSortedI X.K) t)) (hs : starEach [a] X.env = (false, eval a X.env) :: starEach [] X.env := by rfl) : DF X W e (p1 sortD fa) :=
  ⟨PE.conseq (hpe _ (pa_cons ha.run pa_nil hs)) fun σ H Q h => tF_of1 (Za := Zh) (r := fun x H Q => rSortedI X.K [x] H Q) (fun {G H x a ds} s z e => by
    unfold sortD at e
    split at e
    · split at e
      · rename_i xs _ ns hi
        cases e
        obtain ⟨p, vs, rfl, h1, r1⟩ := z.lst s
        rw [ints_eq hi] at r1
        have ev := r1.ints
        subst ev
        exact ⟨_, _, rfl, RpA.ofInts _, fun Q q => ⟨p, ns, rfl, SqL.of h1, fun ns' l hp hw hl => by rw [isort_uniq hp hw]; exact q l hl⟩⟩
      · cases e
    · cases e) (fun a x e => by
      unfold sortD at e
      split at e
      · split at e <;> cases e
      · cases e) h⟩
theorem w_sorted {X : Cx} {W : WX} {a : Expr} {fa : List Sl → R D} {p pos : Pos} (hm : X.mg "sorted" = none) (ha : DQ X W a fa) (hg : Gl X "sorted" := by rfl) (hs : starEach [a] X.env = (false, eval a X.env) :: starEach [] X.env := by rfl) (hpl : (backTo pos (starEach [] X.env)).any (·.1) = false := by rfl) : DF X W (.Call (.Name "sorted" p) [a] [] pos) (p1 sortD fa) :=
  df_sorted ha (fun _ h => pe_callB cr_sortedI hg hm (by rfl) h (by decide) (by decide) hs hpl) hs
end DL

set_option Elab.async false
set_option linter.all false
set_option maxRecDepth 100000
set_option maxHeartbeats 2000000
/-! Words: the rules with all that is found by computing put in. -/
namespace DL
open PySem PySem.Spec PyProof.Rows L2
section
variable {X : Cx} {W : WX} {e a b c : Expr} {g fa fb fc : List Sl → R D} {ge ga gb : List Sl → RE} {p pos apos : Pos} {k : Nat} {Za Zb : ZK}
/-! ### operators -/
theorem w_add (ha : DQ X W a fa) (hb : DQ X W b fb) : DP X W (.BinOp a .Add b pos) (p2 addD fa fb) := dp_bin opA_add od_add ha hb
theorem w_sub (ha : DQ X W a fa) (hb : DQ X W b fb) : DP X W (.BinOp a .Sub b pos) (p2 subD fa fb) := dp_bin op_sub od_sub ha hb
theorem w_mul (ha : DQ X W a fa) (hb : DQ X W b fb) : DP X W (.BinOp a .Mult b pos) (p2 mulD fa fb) := dp_bin opA_mul od_mul ha hb
theorem w_fdiv (ha : DQ X W a fa) (hb : DQ X W b fb) : DP X W (.BinOp a .FloorDiv b pos) (p2 fdivD fa fb) := dp_bin op_fdiv od_fdiv ha hb
theorem w_mod (ha : DQ X W a fa) (hb : DQ X W b fb) : DP X W (.BinOp a .Mod b pos) (p2 modD fa fb) := dp_bin op_mod od_mod ha hb
theorem w_pow (ha : DQ X W a fa) (hb : DQ X W b fb) : DP X W (.BinOp a .Pow b pos) (p2 powD fa fb) := dp_bin op_pow od_pow ha hb
theorem w_neg (ha : DQ X W a fa) : DP X W (.UnaryOp .USub a pos) (p1 negD fa) := dp_un un_neg od_neg ha
theorem we_add (ha : DE X W a ga) (hb : DE X W b gb) : DE X W (.BinOp a .Add b pos) (e2 addD ga gb) := de_bin opA_add od_add ha hb
theorem we_sub (ha : DE X W a ga) (hb : DE X W b gb) : DE X W (.BinOp a .Sub b pos) (e2 subD ga gb) := de_bin op_sub od_sub ha hb
theorem we_mul (ha : DE X W a ga) (hb : DE X W b gb) : DE X W (.BinOp a .Mult b pos) (e2 mulD ga gb) := de_bin opA_mul od_mul ha hb
theorem we_fdiv (ha : DE X W a ga) (hb : DE X W b gb) : DE X W (.BinOp a .FloorDiv b pos) (e2 fdivD ga gb) := de_bin op_fdiv od_fdiv ha hb
theorem we_mod (ha : DE X W a ga) (hb : DE X W b gb) : DE X W (.BinOp a .Mod b pos) (e2 modD ga gb) := de_bin op_mod od_mod ha hb
/-! ### comparisons -/
section
variable [ZOk Za] [ZOk Zb]
theorem w_eq (hr : Room k X.A) (ha : DZ Za X W a fa) (hb : DZ Zb X W b fb) : DP X W (.Compare a [.Eq] [b] pos) (p2 eqD fa fb) := dp_cmp (op_eqX hr.units) od_eq ha.dirty hb.dirty (nobehind _ (by decide) (by decide))
theorem w_ne (hr : Room k X.A) (ha : DZ Za X W a fa) (hb : DZ Zb X W b fb) : DP X W (.Compare a [.NotEq] [b] pos) (p2 neD fa fb) := dp_cmp (op_neX hr.units) od_ne ha.dirty hb.dirty (nobehind _ (by decide) (by decide))
theorem w_in (hr : Room k X.A) (ha : DZ Za X W a fa) (hb : DZ Zb X W b fb) (hm : behindInMarks .In b = false := by rfl) : DP X W (.Compare a [.In] [b] pos) (p2 inD fa fb) := dp_cmp (opA_in (by have := hr.un; omega)) od_in ha.dirty hb.dirty hm
theorem w_nin (hr : Room k X.A) (ha : DZ Za X W a fa) (hb : DZ Zb X W b fb) (hm : behindInMarks .NotIn b = false := by rfl) : DP X W (.Compare a [.NotIn] [b] pos) (p2 ninD fa fb) := dp_cmp (opA_nin (by have := hr.un; omega)) od_nin ha.dirty hb.dirty hm
theorem w_is (ha : DZ Za X W a fa) (hb : DZ Zb X W b fb) : DP X W (.Compare a [.Is] [b] pos) (p2 isD fa fb) := dp_cmp op_isN od_is ha.dirty hb.dirty (nobehind _ (by decide) (by decide))
theorem w_isn (ha : DZ Za X W a fa) (hb : DZ Zb X W b fb) : DP X W (.Compare a [.IsNot] [b] pos) (p2 isnD fa fb) := dp_cmp op_notN od_isn ha.dirty hb.dirty (nobehind _ (by decide) (by decide))
theorem t_eq (hr : Room k X.A) (ha : DZ Za X W a fa) (hb : DZ Zb X W b fb) : DT X W (.Compare a [.Eq] [b] pos) (b1 asB (p2 eqD fa fb)) := dt_cmp (op_eqX hr.units) od_eq ha.dirty hb.dirty (nobehind _ (by decide) (by decide))
theorem t_ne (hr : Room k X.A) (ha : DZ Za X W a fa) (hb : DZ Zb X W b fb) : DT X W (.Compare a [.NotEq] [b] pos) (b1 asB (p2 neD fa fb)) := dt_cmp (op_neX hr.units) od_ne ha.dirty hb.dirty (nobehind _ (by decide) (by decide))
theorem t_in (hr : Room k X.A) (ha : DZ Za X W a fa) (hb : DZ Zb X W b fb) (hm : behindInMarks .In b = false := by rfl) : DT X W (.Compare a [.In] [b] pos) (b1 asB (p2 inD fa fb)) := dt_cmp (opA_in (by have := hr.un; omega)) od_in ha.dirty hb.dirty hm
theorem t_nin (hr : Room k X.A) (ha : DZ Za X W a fa) (hb : DZ Zb X W b fb) (hm : behindInMarks .NotIn b = false := by rfl) : DT X W (.Compare a [.NotIn] [b] pos) (b1 asB (p2 ninD fa fb)) := dt_cmp (opA_nin (by have := hr.un; omega)) od_nin ha.dirty hb.dirty hm
theorem t_is (ha : DZ Za X W a fa) (hb : DZ Zb X W b fb) : DT X W (.Compare a [.Is] [b] pos) (b1 asB (p2 isD fa fb)) := dt_cmp op_isN od_is ha.dirty hb.dirty (nobehind _ (by decide) (by decide))
theorem t_isn (ha : DZ Za X W a fa) (hb : DZ Zb X W b fb) : DT X W (.Compare a [.IsNot] [b] pos) (b1 asB (p2 isnD fa fb)) := dt_cmp op_notN od_isn ha.dirty hb.dirty (nobehind _ (by decide) (by decide))
end
theorem w_lt (ha : DQ X W a fa) (hb : DQ X W b fb) : DP X W (.Compare a [.Lt] [b] pos) (p2 ltD fa fb) := dp_cmp op_lt od_lt ha hb (nobehind _ (by decide) (by decide))
theorem w_le (ha : DQ X W a fa) (hb : DQ X W b fb) : DP X W (.Compare a [.LtE] [b] pos) (p2 leD fa fb) := dp_cmp op_le od_le ha hb (nobehind _ (by decide) (by decide))
theorem w_gt (ha : DQ X W a fa) (hb : DQ X W b fb) : DP X W (.Compare a [.Gt] [b] pos) (p2 gtD fa fb) := dp_cmp op_gt od_gt ha hb (nobehind _ (by decide) (by decide))
theorem w_ge (ha : DQ X W a fa) (hb : DQ X W b fb) : DP X W (.Compare a [.GtE] [b] pos) (p2 geD fa fb) := dp_cmp op_ge od_ge ha hb (nobehind _ (by decide) (by decide))
theorem t_lt (ha : DQ X W a fa) (hb : DQ X W b fb) : DT X W (.Compare a [.Lt] [b] pos) (b1 asB (p2 ltD fa fb)) := dt_cmp op_lt od_lt ha hb (nobehind _ (by decide) (by decide))
theorem t_le (ha : DQ X W a fa) (hb : DQ X W b fb) : DT X W (.Compare a [.LtE] [b] pos) (b1 asB (p2 leD fa fb)) := dt_cmp op_le od_le ha hb (nobehind _ (by decide) (by decide))
theorem t_gt (ha : DQ X W a fa) (hb : DQ X W b fb) : DT X W (.Compare a [.Gt] [b] pos) (b1 asB (p2 gtD fa fb)) := dt_cmp op_gt od_gt ha hb (nobehind _ (by decide) (by decide))
theorem t_ge (ha : DQ X W a fa) (hb : DQ X W b fb) : DT X W (.Compare a [.GtE] [b] pos) (b1 asB (p2 geD fa fb)) := dt_cmp op_ge od_ge ha hb (nobehind _ (by decide) (by decide))
theorem q_eq (hr : Room k X.A) (ha : DE X W a ga) (hb : DE X W b gb) : DQT X W (.Compare a [.Eq] [b] pos) (q1 asB (e2 eqD ga gb)) := dq_cmp (op_eqX hr.units) od_eq ha hb (nobehind _ (by decide) (by decide))
theorem q_ne (hr : Room k X.A) (ha : DE X W a ga) (hb : DE X W b gb) : DQT X W (.Compare a [.NotEq] [b] pos) (q1 asB (e2 neD ga gb)) := dq_cmp (op_neX hr.units) od_ne ha hb (nobehind _ (by decide) (by decide))
theorem q_lt (ha : DE X W a ga) (hb : DE X W b gb) : DQT X W (.Compare a [.Lt] [b] pos) (q1 asB (e2 ltD ga gb)) := dq_cmp op_lt od_lt ha hb (nobehind _ (by decide) (by decide))
theorem q_gt (ha : DE X W a ga) (hb : DE X W b gb) : DQT X W (.Compare a [.Gt] [b] pos) (q1 asB (e2 gtD ga gb)) := dq_cmp op_gt od_gt ha hb (nobehind _ (by decide) (by decide))
theorem we_eq (hr : Room k X.A) (ha : DE X W a ga) (hb : DE X W b gb) : DE X W (.Compare a [.Eq] [b] pos) (e2 eqD ga gb) := de_cmp (op_eqX hr.units) od_eq ha hb (nobehind _ (by decide) (by decide))
theorem we_ne (hr : Room k X.A) (ha : DE X W a ga) (hb : DE X W b gb) : DE X W (.Compare a [.NotEq] [b] pos) (e2 neD ga gb) := de_cmp (op_neX hr.units) od_ne ha hb (nobehind _ (by decide) (by decide))
theorem w_lele (ha : DQ X W a fa) (hb : DQ X W b fb) (hc : DQ X W c fc) (hm : lastMarks [.LtE, .LtE] [b, c] = false := by with_unfolding_all rfl) : DP X W (.Compare a [.LtE, .LtE] [b, c] pos) (pChain leD leD fa fb fc) := dp_chain op_le op_le od_le od_le ha hb hc hm
theorem t_lele (ha : DQ X W a fa) (hb : DQ X W b fb) (hc : DQ X W c fc) (hm : lastMarks [.LtE, .LtE] [b, c] = false := by with_unfolding_all rfl) : DT X W (.Compare a [.LtE, .LtE] [b, c] pos) (b1 asB (pChain leD leD fa fb fc)) := dt_chain op_le op_le od_le od_le ha hb hc hm
theorem w_ltlt (ha : DQ X W a fa) (hb : DQ X W b fb) (hc : DQ X W c fc) (hm : lastMarks [.Lt, .Lt] [b, c] = false := by with_unfolding_all rfl) : DP X W (.Compare a [.Lt, .Lt] [b, c] pos) (pChain ltD ltD fa fb fc) := dp_chain op_lt op_lt od_lt od_lt ha hb hc hm
theorem t_ltlt (ha : DQ X W a fa) (hb : DQ X W b fb) (hc : DQ X W c fc) (hm : lastMarks [.Lt, .Lt] [b, c] = false := by with_unfolding_all rfl) : DT X W (.Compare a [.Lt, .Lt] [b, c] pos) (b1 asB (pChain ltD ltD fa fb fc)) := dt_chain op_lt op_lt od_lt od_lt ha hb hc hm
theorem w_lelt (ha : DQ X W a fa) (hb : DQ X W b fb) (hc : DQ X W c fc) (hm : lastMarks [.LtE, .Lt] [b, c] = false := by with_unfolding_all rfl) : DP X W (.Compare a [.LtE, .Lt] [b, c] pos) (pChain leD ltD fa fb fc) := dp_chain op_le op_lt od_le od_lt ha hb hc hm
theorem t_lelt (ha : DQ X W a fa) (hb : DQ X W b fb) (hc : DQ X W c fc) (hm : lastMarks [.LtE, .Lt] [b, c] = false := by with_unfolding_all rfl) : DT X W (.Compare a [.LtE, .Lt] [b, c] pos) (b1 asB (pChain leD ltD fa fb fc)) := dt_chain op_le op_lt od_le od_lt ha hb hc hm
theorem w_ltle (ha : DQ X W a fa) (hb : DQ X W b fb) (hc : DQ X W c fc) (hm : lastMarks [.Lt, .LtE] [b, c] = false := by with_unfolding_all rfl) : DP X W (.Compare a [.Lt, .LtE] [b, c] pos) (pChain ltD leD fa fb fc) := dp_chain op_lt op_le od_lt od_le ha hb hc hm
theorem t_ltle (ha : DQ X W a fa) (hb : DQ X W b fb) (hc : DQ X W c fc) (hm : lastMarks [.Lt, .LtE] [b, c] = false := by with_unfolding_all rfl) : DT X W (.Compare a [.Lt, .LtE] [b, c] pos) (b1 asB (pChain ltD leD fa fb fc)) := dt_chain op_lt op_le od_lt od_le ha hb hc hm
/-! ### items -/
theorem w_ix (ha : DQ X W a fa) (hb : DQ X W b fb) (hs : PlainIx b := by exact fun _ _ => rfl) : DP X W (.Subscript a b pos) (p2 ixD fa fb) := dp_ix ixA od_ix ha hb hs
theorem we_ix (ha : DE X W a ga) (hb : DE X W b gb) (hs : PlainIx b := by exact fun _ _ => rfl) : DE X W (.Subscript a b pos) (e2 ixD ga gb) := de_ix ixA od_ix ha hb hs
theorem w_rev {j : Nat} {p1' p2' p3' : Pos} (ha : DQ X W a fa) : DP X W (.Subscript a (.Slice none none (some (.UnaryOp .USub (.Constant (.int 1) j p1') p2')) p3') pos) (p1 revD fa) := dp_of1 od_rev ha fun _ h => pe_rev h
/-! ### built-in functions -/
section
variable {es : List Expr}
theorem w_len [ZOk Za] (hm : X.mg "len" = none) (ha : DZ Za X W a fa) (hg : Gl X "len" := by rfl) (hs : starEach [a] X.env = (false, eval a X.env) :: starEach [] X.env := by rfl) (hpl : (backTo pos (starEach [] X.env)).any (·.1) = false := by rfl) : DP X W (.Call (.Name "len" p) [a] [] pos) (p1 lenD fa) :=
  dp_call1 od_len ha.dirty (fun _ h => pe_callB call_len hg hm boot_len h (by decide) (by decide) hs hpl) hs
theorem w_abs (hm : X.mg "abs" = none) (ha : DQ X W a fa) (hg : Gl X "abs" := by rfl) (hs : starEach [a] X.env = (false, eval a X.env) :: starEach [] X.env := by rfl) (hpl : (backTo pos (starEach [] X.env)).any (·.1) = false := by rfl) : DP X W (.Call (.Name "abs" p) [a] [] pos) (p1 absD fa) :=
  dp_call1 (r := fun xs H Q => ∃ i, xs = [V.int i] ∧ Q (.int (if i < 0 then -i else i)) H) od_abs ha (fun _ h => pe_callB call_abs hg hm boot_abs h (by decide) (by decide) hs hpl) hs
theorem w_int (hm : X.mg "int" = none) (ha : DQ X W a fa) (hg : Gl X "int" := by rfl) (hs : starEach [a] X.env = (false, eval a X.env) :: starEach [] X.env := by rfl) (hpl : (backTo pos (starEach [] X.env)).any (·.1) = false := by rfl) : DP X W (.Call (.Name "int" p) [a] [] pos) (p1 intD fa) :=
  dp_call1 (r := fun xs H Q => (∃ i, xs = [V.int i] ∧ Q (.int i) H) ∨ ∃ k, xs = [V.bl k] ∧ Q (.int (if k then 1 else 0)) H) od_intc ha (fun _ h => pe_callTy call_int1 hg hm boot_int h (by decide) (by decide) hs hpl) hs
theorem w_all (hc : X.calm = true) (hm : X.mg "all" = none) (ha : DQ X W a fa) (hg : Gl X "all" := by rfl) (hs : starEach [a] X.env = (false, eval a X.env) :: starEach [] X.env := by rfl) (hpl : (backTo pos (starEach [] X.env)).any (·.1) = false := by rfl) : DP X W (.Call (.Name "all" p) [a] [] pos) (p1 allD fa) :=
  dp_call1 od_all ha (fun _ h => pe_callB (cr_all hc) hg hm boot_all h (by decide) (by decide) hs hpl) hs
theorem w_any (hc : X.calm = true) (hm : X.mg "any" = none) (ha : DQ X W a fa) (hg : Gl X "any" := by rfl) (hs : starEach [a] X.env = (false, eval a X.env) :: starEach [] X.env := by rfl) (hpl : (backTo pos (starEach [] X.env)).any (·.1) = false := by rfl) : DP X W (.Call (.Name "any" p) [a] [] pos) (p1 anyD fa) :=
  dp_call1 od_any ha (fun _ h => pe_callB (cr_any hc) hg hm boot_any h (by decide) (by decide) hs hpl) hs
theorem w_sum (hc : X.calm = true) (hm : X.mg "sum" = none) (ha : DQ X W a fa) (hg : Gl X "sum" := by rfl) (hs : starEach [a] X.env = (false, eval a X.env) :: starEach [] X.env := by rfl) (hpl : (backTo pos (starEach [] X.env)).any (·.1) = false := by rfl) : DP X W (.Call (.Name "sum" p) [a] [] pos) (p1 sumD fa) :=
  dp_call1 od_sum ha (fun _ h => pe_callB (cr_sum hc) hg hm boot_sum h (by decide) (by decide) hs hpl) hs
theorem w_tuple (hm : X.mg "tuple" = none) (ha : DQ X W a fa) (hg : Gl X "tuple" := by rfl) (hs : starEach [a] X.env = (false, eval a X.env) :: starEach [] X.env := by rfl) (hpl : (backTo pos (starEach [] X.env)).any (·.1) = false := by rfl) : DP X W (.Call (.Name "tuple" p) [a] [] pos) (p1 tupD fa) :=
  dp_call1 od_tup ha (fun _ h => pe_callTy call_tupX hg hm boot_tuple h (by decide) (by decide) hs hpl) hs
theorem w_str1 (hm : X.mg "str" = none) (ha : DP X W a fa) (hg : Gl X "str" := by rfl) (hs : starEach [a] X.env = (false, eval a X.env) :: starEach [] X.env := by rfl) (hpl : (backTo pos (starEach [] X.env)).any (·.1) = false := by rfl) : DP X W (.Call (.Name "str" p) [a] [] pos) (p1 strD fa) :=
  dp_call1 (r := fun xs H Q => (∃ a, xs = [V.str a] ∧ Q (.str a) H) ∨ ∃ i, xs = [V.int i] ∧ i.natAbs.log2 < 1920 ∧ Q (.str (toString i)) H) od_str ha (fun _ h => pe_callTy (CallR.or SkE.call_str_str call_str_int) hg hm boot_str h (by decide) (by decide) hs hpl) hs
theorem w_repr [ZOk Za] (hgd : X.A.guards = some []) (hr : Room k X.A) (hm : X.mg "repr" = none) (ha : DZ Za X W a fa) (hg : Gl X "repr" := by rfl) (hs : starEach [a] X.env = (false, eval a X.env) :: starEach [] X.env := by rfl) (hpl : (backTo pos (starEach [] X.env)).any (·.1) = false := by rfl) : DP X W (.Call (.Name "repr" p) [a] [] pos) (p1 reprD fa) :=
  dp_call1 od_repr ha.dirty (fun _ h => pe_callB (cr_repr hgd (by have := hr.un; omega)) hg hm boot_repr h (by decide) (by decide) hs hpl) hs
theorem w_max2 (hc : X.calm = true) (hm : X.mg "max" = none) (ha : DQ X W a fa) (hb : DQ X W b fb) (hg : Gl X "max" := by rfl) (hs : starEach [a, b] X.env = (false, eval a X.env) :: starEach [b] X.env := by rfl) (hs2 : starEach [b] X.env = (false, eval b X.env) :: starEach [] X.env := by rfl) (hpl : (backTo pos (starEach [b] X.env)).any (·.1) = false := by rfl) :
    DP X W (.Call (.Name "max" p) [a, b] [] pos) (p2 maxD fa fb) :=
  dp_call2 (r := fun xs H Q => ∃ i j, xs = [V.int i, V.int j] ∧ Q (.int (if j > i then j else i)) H) od_max ha hb (fun _ h => pe_callB (call_max2 hc) hg hm boot_max h (by decide) (by decide) hs hpl) hs hs2
theorem w_min2 (hc : X.calm = true) (hm : X.mg "min" = none) (ha : DQ X W a fa) (hb : DQ X W b fb) (hg : Gl X "min" := by rfl) (hs : starEach [a, b] X.env = (false, eval a X.env) :: starEach [b] X.env := by rfl) (hs2 : starEach [b] X.env = (false, eval b X.env) :: starEach [] X.env := by rfl) (hpl : (backTo pos (starEach [b] X.env)).any (·.1) = false := by rfl) :
    DP X W (.Call (.Name "min" p) [a, b] [] pos) (p2 minD fa fb) :=
  dp_call2 (r := fun xs H Q => ∃ i j, xs = [V.int i, V.int j] ∧ Q (.int (if j < i then j else i)) H) od_min ha hb (fun _ h => pe_callB (call_min2 hc) hg hm boot_min h (by decide) (by decide) hs hpl) hs hs2
theorem w_min3 (hc : X.calm = true) (hm : X.mg "min" = none) (ha : DP X W a fa) (hb : DP X W b fb) (hv : DP X W c fc) (hg : Gl X "min" := by rfl) (hs : starEach [a, b, c] X.env = (false, eval a X.env) :: starEach [b, c] X.env := by rfl) (hs2 : starEach [b, c] X.env = (false, eval b X.env) :: starEach [c] X.env := by rfl)
    (hs3 : starEach [c] X.env = (false, eval c X.env) :: starEach [] X.env := by rfl) (hpl : (backTo pos (starEach [b, c] X.env)).any (·.1) = false := by rfl) : DP X W (.Call (.Name "min" p) [a, b, c] [] pos) (p3 min3D fa fb fc) :=
  dp_call3 od_min3 ha hb hv (fun _ h => pe_callB (call_min3Nu hc) hg hm boot_min h (by decide) (by decide) hs hpl) hs hs2 hs3
theorem w_divmod (hm : X.mg "divmod" = none) (ha : DP X W a fa) (hb : DP X W b fb) (hg : Gl X "divmod" := by rfl) (hs : starEach [a, b] X.env = (false, eval a X.env) :: starEach [b] X.env := by rfl) (hs2 : starEach [b] X.env = (false, eval b X.env) :: starEach [] X.env := by rfl) (hpl : (backTo pos (starEach [b] X.env)).any (·.1) = false := by rfl) :
    DZ Zi X W (.Call (.Name "divmod" p) [a, b] [] pos) (p2 dmD fa fb) := dp_divmod ha hb (fun _ h => pe_callB call_divmod hg hm boot_divmod h (by decide) (by decide) hs hpl) hs hs2
theorem w_list (hm : X.mg "list" = none) (ha : DQ X W a fa) (hg : Gl X "list" := by rfl) (hs : starEach [a] X.env = (false, eval a X.env) :: starEach [] X.env := by rfl) (hpl : (backTo pos (starEach [] X.env)).any (·.1) = false := by rfl) : DF X W (.Call (.Name "list" p) [a] [] pos) (p1 listD fa) :=
  df_listOf ha (fun _ h => pe_callTy call_list_of hg hm boot_list h (by decide) (by decide) hs hpl) hs
theorem w_listRg {p' pos' : Pos} (hc : X.calm = true) (hm : X.mg "list" = none) (hm' : X.mg "range" = none) (ha : DP X W a fa) (hg : Gl X "list" := by rfl) (hg' : Gl X "range" := by rfl) (hs : starEach [a] X.env = (false, eval a X.env) :: starEach [] X.env := by rfl)
    (hs' : starEach [.Call (.Name "range" p') [a] [] pos'] X.env = (false, eval (.Call (.Name "range" p') [a] [] pos') X.env) :: starEach [] X.env := by rfl) : DF X W (.Call (.Name "list" p) [.Call (.Name "range" p') [a] [] pos'] [] pos) (p1 lrD fa) :=
  df_listRg ha fun _ h => pe_listRg hc hg hm (prg_1 hg' hm' h hs) hs'
theorem pe_tyName {x : Str} {T : String} (hg : Gl X x) (hm : X.mg x = none) (hv : bootBuiltins x = some (.type T)) (hn : x ≠ "__name__" := by decide) (hdb : (x == ("__debug__" : Str)) = false := by decide) : PE X (.Name x p) (tC (.ty T)) :=
  ⟨fun pins s σ H Q I h => ld_blt I hg hm hv ⟨.ty T, H, I, rfl, h⟩ hn hdb⟩
theorem w_isT [ZOk Za] {x : Str} {T : String} (hm : X.mg "isinstance" = none) (hx : X.mg x = none) (hv : bootBuiltins x = some (.type T)) (hT : known T = true) (ha : DZ Za X W a fa) (hg : Gl X "isinstance" := by rfl) (hgx : Gl X x := by rfl) (hn : x ≠ "__name__" := by decide) (hdb : (x == ("__debug__" : Str)) = false := by decide)
    (hs : starEach [a, .Name x apos] X.env = (false, eval a X.env) :: starEach [.Name x apos] X.env := by rfl) (hs2 : starEach [.Name x apos] X.env = (false, eval (.Name x apos) X.env) :: starEach [] X.env := by rfl) (hpl : (backTo pos (starEach [.Name x apos] X.env)).any (·.1) = false := by rfl) :
    DP X W (.Call (.Name "isinstance" p) [a, .Name x apos] [] pos) (p1 (isK T) fa) :=
  ⟨PE.conseq (pe_callB call_isi hg hm boot_isinstance (pa_cons ha.dirty.run (pa_cons (pe_tyName hgx hx hv hn hdb) pa_nil hs2) hs) (by decide) (by decide) hs hpl) fun σ H Q h => tZ_1 (r := fun x H1 Q => rIsi X.K [x, .ty T] H1 Q) (Za := Zd) (od_isK hT) h⟩
theorem w_isC [ZOk Za] {cs : List Addr} {C : Addr} {y : Str} {py : Pos} (hm : X.mg "isinstance" = none) (hC : ∀ C ∈ cs, ClsI X.K C) (hy : X.mg y = some (.ref C)) (ha : DZ Za X W a fa) (hg : Gl X "isinstance" := by rfl) (hgy : Gl X y := by rfl) (hdb : (y == ("__debug__" : Str)) = false := by decide)
    (hs : starEach [a, .Name y py] X.env = (false, eval a X.env) :: starEach [.Name y py] X.env := by rfl) (hs2 : starEach [.Name y py] X.env = (false, eval (.Name y py) X.env) :: starEach [] X.env := by rfl) (hpl : (backTo pos (starEach [.Name y py] X.env)).any (·.1) = false := by rfl) :
    DP X W (.Call (.Name "isinstance" p) [a, .Name y py] [] pos) (p1 (isCD X.K cs C) fa) :=
  dp_isC (p := p) hC ha (pe_glob hgy hy rfl hdb) (fun _ h => pe_callB call_isi hg hm boot_isinstance h (by decide) (by decide) hs hpl) hs hs2
end
/-! ### sources -/
theorem w_enum {elts : List Expr} {kk : Nat} {tpos : Pos} (hm : X.mg "enumerate" = none) (ha : DP X W a fa) (hg : Gl X "enumerate" := by rfl) (hs : starEach [a] X.env = (false, eval a X.env) :: starEach [] X.env := by rfl) (hs' : starEach [a] X.env = [(false, eval a X.env)] := by rfl) :
    DI X RpI W (.Tuple elts kk tpos) (.Call (.Name "enumerate" p) [a] [] pos) (i1 enumD fa) := di_enum hg hm ha hs hs'
theorem w_range1 {tg : Expr} (hm : X.mg "range" = none) (ha : DP X W a fa) (hg : Gl X "range" := by rfl) (hs : starEach [a] X.env = (false, eval a X.env) :: starEach [] X.env := by rfl) (hs' : starEach [a] X.env = [(false, eval a X.env)] := by rfl) : DI X Rp W tg (.Call (.Name "range" p) [a] [] pos) (iRange1 fa) := di_range1 hg hm ha hs hs'
theorem w_range2 {tg : Expr} (hm : X.mg "range" = none) (ha : DP X W a fa) (hb : DP X W b fb) (hg : Gl X "range" := by rfl) (hs : starEach [a, b] X.env = (false, eval a X.env) :: starEach [b] X.env := by rfl) (hs2 : starEach [b] X.env = (false, eval b X.env) :: starEach [] X.env := by rfl)
    (hs' : starEach [a, b] X.env = [(false, eval a X.env), (false, eval b X.env)] := by rfl) (hs3 : starEach [b] X.env = [(false, eval b X.env)] := by rfl) : DI X Rp W tg (.Call (.Name "range" p) [a, b] [] pos) (iRange2 fa fb) := di_range2 hg hm ha hb hs hs2 hs' hs3
theorem wj_range1 {tg : Expr} (hm : X.mg "range" = none) (ha : DE X W a ga) (hg : Gl X "range" := by rfl) (hs : starEach [a] X.env = (false, eval a X.env) :: starEach [] X.env := by rfl) (hs' : starEach [a] X.env = [(false, eval a X.env)] := by rfl) : DJ X W tg (.Call (.Name "range" p) [a] [] pos) (jRange1 ga) := dj_range1 hg hm ha hs hs'
/-! ### methods -/
theorem w_split (ha : DP X W a fa) (hb : DP X W b fb) (hs : starEach [b] X.env = [(false, eval b X.env)] := by rfl) (hbase : attributeBase a "split" X.env (eval a X.env) = eval a X.env := by rfl) (hline : (apos.endLine == pos.line) = true := by rfl) : DP X W (.Call (.Attribute a "split" apos) [b] [] pos) (pM1 splitD fa fb) :=
  dp_m1 od_split ha hb fun _ _ h h' => pe_split h h' hs hbase hline
theorem w_join (ha : DP X W a fa) (hb : DQ X W b fb) (hs : starEach [b] X.env = [(false, eval b X.env)] := by rfl) (hbase : attributeBase a "join" X.env (eval a X.env) = eval a X.env := by rfl) (hline : (apos.endLine == pos.line) = true := by rfl) : DP X W (.Call (.Attribute a "join" apos) [b] [] pos) (pM1 joinD fa fb) :=
  dp_m1 od_join ha hb fun _ _ h h' => pe_join h h' hs hbase hline
theorem w_index [ZOk Zb] (hr : Room k X.A) (ha : DR X W a fa) (hb : DZ Zb X W b fb) (hbase : attributeBase a "index" X.env (eval a X.env) = eval a X.env := by rfl)
    (hfew : ((backTo pos (starEach [b] X.env)).all (fun x => !x.1) && (backToKw pos (keywordEach [] X.env)).all (fun x => x.1.isSome) && decide ([b].length + ([] : List Keyword).length + (if ([] : List Keyword).isEmpty then 0 else 1) < 30)) = true := by rfl)
    (hline : (apos.endLine == pos.line) = true := by rfl) (hs : starEach [b] X.env = (false, eval b X.env) :: starEach [] X.env := by rfl) (hplain : (backTo pos (starEach [] X.env)).any (·.1) = false := by rfl) : DP X W (.Call (.Attribute a "index" apos) [b] [] pos) (pIndex fa fb) :=
  dp_indexOf (by have := hr.un; omega) ha hb fun _ _ h h' => pe_indexOf (by have := hr.un; omega) h h' hbase hfew hline hs hplain
theorem w_append {i : Nat} {x : Str} {px : Pos} (hv : PE X (.Name x px) (tVar i)) (he : DE X W e ge) (hbase : attributeBase (.Name x px) "append" X.env (eval (.Name x px) X.env) = eval (.Name x px) X.env := by rfl)
    (hfew : ((backTo pos (starEach [e] X.env)).all (fun x => !x.1) && (backToKw pos (keywordEach [] X.env)).all (fun x => x.1.isSome) && decide ([e].length + ([] : List Keyword).length + (if ([] : List Keyword).isEmpty then 0 else 1) < 30)) = true := by rfl)
    (hline : (apos.endLine == pos.line) = true := by rfl) (hs : starEach [e] X.env = (false, eval e X.env) :: starEach [] X.env := by rfl) (hplain : (backTo pos (starEach [] X.env)).any (·.1) = false := by rfl) : DE X W (.Call (.Attribute (.Name x px) "append" apos) [e] [] pos) (eApp i ge) :=
  de_app hv he (fun _ _ h h' => pe_bm PySem.F.plainAttrs_list PySem.F.slot_list_append PySem.F.type_list_append mt_append h h' hbase hfew hline hs hplain) hs
theorem w_pop {i : Nat} {x : Str} {px : Pos} (hv : PE X (.Name x px) (tVar i)) (he : DE X W e ge) (hbase : attributeBase (.Name x px) "pop" X.env (eval (.Name x px) X.env) = eval (.Name x px) X.env := by rfl)
    (hfew : ((backTo pos (starEach [e] X.env)).all (fun x => !x.1) && (backToKw pos (keywordEach [] X.env)).all (fun x => x.1.isSome) && decide ([e].length + ([] : List Keyword).length + (if ([] : List Keyword).isEmpty then 0 else 1) < 30)) = true := by rfl)
    (hline : (apos.endLine == pos.line) = true := by rfl) (hs : starEach [e] X.env = (false, eval e X.env) :: starEach [] X.env := by rfl) (hplain : (backTo pos (starEach [] X.env)).any (·.1) = false := by rfl) : DE X W (.Call (.Attribute (.Name x px) "pop" apos) [e] [] pos) (ePop i ge) :=
  de_pop hv he (fun _ _ h h' => pe_bm PySem.F.plainAttrs_list PySem.F.slot_list_pop PySem.F.type_list_pop mt_popAt h h' hbase hfew hline hs hplain) hs
theorem w_appLL {i : Nat} {x : Str} {px ps : Pos} {idx : Expr} (hv : PE X (.Name x px) (tVar i)) (hi : DP X W idx fa) (he : DP X W e g) (hx : PlainIx idx := by exact fun _ _ => rfl) (hbase : attributeBase (.Subscript (.Name x px) idx ps) "append" X.env (eval (.Subscript (.Name x px) idx ps) X.env) = eval (.Subscript (.Name x px) idx ps) X.env := by rfl)
    (hfew : ((backTo pos (starEach [e] X.env)).all (fun x => !x.1) && (backToKw pos (keywordEach [] X.env)).all (fun x => x.1.isSome) && decide ([e].length + ([] : List Keyword).length + (if ([] : List Keyword).isEmpty then 0 else 1) < 30)) = true := by rfl)
    (hline : (apos.endLine == pos.line) = true := by rfl) (hs : starEach [e] X.env = (false, eval e X.env) :: starEach [] X.env := by rfl) (hplain : (backTo pos (starEach [] X.env)).any (·.1) = false := by rfl) : DE X W (.Call (.Attribute (.Subscript (.Name x px) idx ps) "append" apos) [e] [] pos) (eAppLL i fa g) :=
  de_appLL hv hi he (fun _ _ _ h hi h' => pe_bm PySem.F.plainAttrs_list PySem.F.slot_list_append PySem.F.type_list_append mt_append (pe_ix ix_list h hi hx) h' hbase hfew hline hs hplain) hs
/-! ### globals -/
theorem w_gint {x : Str} {i : Int} (h : ∃ t, X.mg x = some (.int i t)) (hg : Gl X x := by rfl) (hdb : (x == ("__debug__" : Str)) = false := by decide) : DP X W (.Name x p) (pC (.int i)) := dp_c (v := .int i) (let ⟨t, ht⟩ := h; pe_glob hg ht ⟨t, rfl⟩ hdb) fun _ => .int i
theorem w_gstr {x : Str} {i : Str} (h : ∃ t, X.mg x = some (.str i t)) (hg : Gl X x := by rfl) (hdb : (x == ("__debug__" : Str)) = false := by decide) : DP X W (.Name x p) (pC (.str i)) := dp_c (v := .str i) (let ⟨t, ht⟩ := h; pe_glob hg ht ⟨t, rfl⟩ hdb) fun _ => .str i
/-! ### blocks -/
theorem blk_ok {N : List Str} {sc scope : Scope} {own : List (Str × Nat)} (h1 : scope.kind = .function)
    (h2 : decide (∀ y ∈ scope.names, scope.names.lookup y.1 = some y.2) = true) (h3 : decide (∀ p ∈ own, N[p.2]? = some p.1) = true)
    (h4 : decide (∀ y ∈ scope.names, y.2 = .free → sc.names.lookup y.1 = some .cell ∨ sc.names.lookup y.1 = some .free) = true) (h5 : decide (∀ y ∈ scope.names, y.2 = .local ∨ y.2 = .cell → y.1 ∈ own.map (·.1) ∨ y.1 ∉ N) = true) : BlkOk N sc scope own :=
  ⟨h1, of_decide_eq_true h2, of_decide_eq_true h3, of_decide_eq_true h4, of_decide_eq_true h5⟩
/-! ### statements -/
def iAdd (x y : D) : R D := match x, y with
  | .int i, .int j => .ok (.int (i + j))
  | _, _ => .st
theorem w_augAdd {i : Nat} {x : Str} {px : Pos} (hN : X.N.Nodup) (he : DE X W e ge) (hi : X.N[i]? = some x := by rfl) (hx : Loc X.env.scope x := by first | exact .inl rfl | exact .inr rfl) (hf : X.fn x = true ∨ X.env.scope.names.lookup x = some .local := by first | exact .inl rfl | exact .inr rfl) :
    DS X W (.AugAssign (.Name x px) .Add e pos) (sAug iAdd i ge) :=
  ds_aug (fo := iAdd) (ti := ipI fun i j => i + j) (fun {W σ θ G ρ Ws H x y a b Q} hx hy q => oi_int hx hy (by unfold iAdd at q; exact q)) he fun _ h => ps_aug hN hi hx h ip_add hf
end
end DL

set_option Elab.async false
set_option linter.all false
set_option maxRecDepth 100000
set_option maxHeartbeats 2000000
/-! The head's facts: defs of the module, of classes, behind properties and classmethods; what else of the text is asked. -/
namespace DL
open PySem PySem.Spec PyProof.Rows L2 He
/-- where a def stands -/
inductive Ad where
  | glo (x : Str) | mem (C m : Str) | via (kind : String) (C f : Str)
def viaAd (K : Fg) (kind : String) (C f : Str) : Addr := match PySem.W.recIn K (ma K (ga K C) f) kind with
  | some (.ref g :: _) => g
  | _ => 0
def Ad.at (K : Fg) : Ad → Addr
  | .glo x => ga K x
  | .mem C m => ma K (ga K C) m
  | .via kind C f => viaAd K kind C f
structure Df where
  at_ : Ad
  name : Str
  qual : Str
  params : Arguments
  body : List Stmt
  scope : Scope
  dfl : List Dv := []
def fnAt (K : Fg) (a : Ad) : FnW := match K.lookup (a.at K) with
  | some ⟨_, _, .func fd, _⟩ => some (fd.name, fd.qualname, fd.params, fd.body, fd.scope, fd.globals, fd.closure, fd.builtins)
  | _ => none
def Df.val (d : Df) : FnW := some (d.name, d.qual, d.params, .stmts d.body, d.scope, mainGlobals, [], builtinsNs)
def Df.dvs (K : Fg) (d : Df) : List V := d.dfl.map (Dv.v K)
def Df.ok (K : Fg) (d : Df) : Bool := PySem.W.keepIn K (.ref (d.at_.at K)) && (match K.lookup (d.at_.at K) with
  | some ⟨_, _, .func fd, _⟩ => PySem.W.codeIn K fd.code d.qual && dflB K fd.defaults (d.dvs K)
  | _ => false)
theorem Df.funD {K : Fg} {d : Df} (e : fnAt K d.at_ = d.val) (c : d.ok K = true) : ∃ fd, FunD K d.name d.qual d.params d.body d.scope (d.dvs K) [] (d.at_.at K) fd := by
  obtain ⟨kp, c2⟩ := ba c
  unfold fnAt at e
  cases q : K.lookup (d.at_.at K) with
  | none => rw [q] at c2; cases c2
  | some o =>
    obtain ⟨oc, od, dt, osl⟩ := o
    rw [q] at c2 e
    cases dt with
    | func fd =>
      obtain ⟨n1, n2, n3, n4, n5, n6, n7, n8, n9, n10, n11, n12, n13, n14, n15⟩ := fd
      have e2 : (some (n1, n2, n3, n4, n5, n6, n7, n15) : FnW) = some (d.name, d.qual, d.params, .stmts d.body, d.scope, mainGlobals, [], builtinsNs) := e
      simp only [Option.some.injEq, Prod.mk.injEq] at e2
      obtain ⟨h1, h2, h3, h4, h5, h6, h7, h8⟩ := e2
      subst h1 h2 h3 h4 h5 h6 h7 h8
      obtain ⟨k1, k2⟩ := ba (show (PySem.W.codeIn K n13 d.qual && dflB K n8 (d.dvs K)) = true from c2)
      exact ⟨_, ⟨oc, od, n8, n9, n10, n11, n12, n13, n14, osl, rfl, q, k1, dflB_ok k2, .inl rfl⟩, kp⟩
    | _ => cases c2
/-! ### what else is asked -/
inductive Fb where
  | prop (C f : Str) | tup0 (a : Dv) | clsi (C : Str) | kit (t : String) (C : Str) (b : Bool) | kitc (C' C : Str) (b : Bool) | own (C m : Str) | cmet (C m : Str)
def tup0B (K : Fg) (v : V) : Bool := match v with
  | .ref a => (match K.lookup a with
    | some ⟨.type c, none, .seq its _, _⟩ => decide (c = "tuple") && decide (its.toList = [])
    | _ => false)
  | _ => false
def Fb.ok (K : Fg) : Fb → Bool
  | .prop C f => eqO (PySem.W.findIn K (.ref (ga K C)) f) (some (some (.ref (ma K (ga K C) f)))) && (eqO (PySem.W.specialIn K (.ref (ma K (ga K C) f)) "__get__") (some (some (.builtin "property.__get__"))) &&
      (decide (PySem.W.takesIn K (.ref (ma K (ga K C) f)) = some true) && (match PySem.W.recIn K (ma K (ga K C) f) "property" with
        | some (.ref _ :: _) => true
        | _ => false)))
  | .tup0 a => tup0B K (a.v K)
  | .clsi C => (Fa.cls C).ok K && (eqO (PySem.W.findIn K (.ref (ga K C)) "__class__") (some (some (.builtin "object.__class__"))) && (eqO (PySem.W.specialIn K (.builtin "object.__class__") "__get__") (some (some (.builtin "getset_descriptor.__get__"))) &&
      (decide (PySem.W.takesIn K (.builtin "object.__class__") = some true) && decide (PySem.W.mroIn K (ga K C) (.type "object") = some true))))
  | .kit t C b => decide (PySem.W.kitOne K (.type t) (.ref (ga K C)) = some b)
  | .kitc C' C b => decide (PySem.W.kitOne K (.ref (ga K C')) (.ref (ga K C)) = some b)
  | .own C m => eqO (PySem.W.findIn K (.ref (ga K C)) m) (some (some (.ref (ma K (ga K C) m)))) && PySem.W.isFn K (.ref (ma K (ga K C) m))
  | .cmet C m => (match PySem.W.recIn K (ma K (ga K C) m) "classmethod" with
        | some (.ref g :: _) => PySem.W.fnIn K g
        | _ => false)
section
variable {K : Fg}
theorem prop_ok {C f : Str} (c : (Fb.prop C f).ok K = true) : PropOf K (ga K C) f (ma K (ga K C) f) (viaAd K "property" C f) := by
  obtain ⟨c1, c⟩ := ba c
  obtain ⟨c2, c⟩ := ba c
  obtain ⟨c3, c4⟩ := ba c
  refine ⟨eqO_ok c1, eqO_ok c2, of_decide_eq_true c3, ?_⟩
  unfold viaAd
  split at c4
  · rename_i g r e
    rw [e]
    exact ⟨r, rfl⟩
  · cases c4
theorem tup0_ok {a : Dv} (c : (Fb.tup0 a).ok K = true) (G : Hp) : Rp K G (a.v K) (.tup []) := by
  have c2 : tup0B K (a.v K) = true := c
  unfold tup0B at c2
  split at c2
  · rename_i ad e
    rw [e]
    split at c2
    · rename_i cl its n sl hl
      obtain ⟨h1, h2⟩ := ba c2
      have e1 := of_decide_eq_true h1
      have e2 := of_decide_eq_true h2
      refine .tup (vs := []) (.inr ⟨_, its, n, hl, by rw [e1], rfl, rfl, ?_, by rw [e2]; exact .nil⟩) .nil
      have : its.size = 0 := by rw [← Array.length_toList, e2]; rfl
      rw [this]; exact Nat.zero_le _
    · cases c2
  · cases c2
theorem clsi_ok {C : Str} (c : (Fb.clsi C).ok K = true) : ClsI K (ga K C) := by
  obtain ⟨c0, c⟩ := ba c
  obtain ⟨c1, c⟩ := ba c
  obtain ⟨c2, c⟩ := ba c
  obtain ⟨c3, c4⟩ := ba c
  exact ⟨cls_ok c0, eqO_ok c1, eqO_ok c2, of_decide_eq_true c3, of_decide_eq_true c4⟩
theorem kit_ok {t : String} {C : Str} {b : Bool} (c : (Fb.kit t C b).ok K = true) : PySem.W.kitOne K (.type t) (.ref (ga K C)) = some b := of_decide_eq_true c
theorem kitc_ok {C' C : Str} {b : Bool} (c : (Fb.kitc C' C b).ok K = true) : PySem.W.kitOne K (.ref (ga K C')) (.ref (ga K C)) = some b := of_decide_eq_true c
end
/-! ### the Hook -/
abbrev AlY : Type := Bool × List FnW
def obsY (fa : List Fa) (fb : List Fb) (fn : List Df) (K : Fg) : AlY := ((fa.all fun f => f.ok K) && (fb.all fun f => f.ok K) && fn.all fun d => d.ok K, fn.map fun d => fnAt K d.at_)
def valY (fn : List Df) : AlY := (true, fn.map Df.val)
def SaysY (fa : List Fa) (fb : List Fb) (fn : List Df) (K : Fg) : Prop := obsY fa fb fn K = valY fn
def obsYG (n : Nat) (fa : List Fa) (fb : List Fb) (fn : List Df) (g : Addr → Option Obj) : AlY := obsY fa fb fn (frG g (asD g n))
def hookY (n : Nat) (fa : List Fa) (fb : List Fb) (fn : List Df) : PySem.W.Hook where
  α := AlY
  obs := fun s => obsYG n fa fb fn s.heap.get?
  val := fun _ => valY fn
  says := fun _ h => ∃ K : Fg, K.In h ∧ SaysY fa fb fn K
  of := fun _ _ e => ⟨_, frG_in, e⟩
  keeps := fun _ _ _ ⟨K, hK, c⟩ k => ⟨K, PySem.W.Frag.In.keeps hK k, c⟩
theorem obsYG_eq {n : Nat} {fa : List Fa} {fb : List Fb} {fn : List Df} {g : Addr → Option Obj} {s : Shared} (h : ∀ a, g a = s.heap.get? a) : obsYG n fa fb fn g = (hookY n fa fb fn).obs s := by
  have e : g = s.heap.get? := funext h
  rw [e] <;> rfl
section
variable {fa : List Fa} {fb : List Fb} {fn : List Df} {K : Fg}
theorem SaysY.fact (c : SaysY fa fb fn K) (i : Nat) {f : Fa} (h : fa[i]? = some f := by rfl) : f.ok K = true :=
  List.all_eq_true.mp (ba (ba (congrArg (fun z : AlY => z.1) c)).1).1 f (List.mem_of_getElem? h)
theorem SaysY.more (c : SaysY fa fb fn K) (i : Nat) {f : Fb} (h : fb[i]? = some f := by rfl) : f.ok K = true :=
  List.all_eq_true.mp (ba (ba (congrArg (fun z : AlY => z.1) c)).1).2 f (List.mem_of_getElem? h)
theorem SaysY.def_ (c : SaysY fa fb fn K) (i : Nat) {d : Df} (h : fn[i]? = some d := by rfl) : ∃ fd, FunD K d.name d.qual d.params d.body d.scope (d.dvs K) [] (d.at_.at K) fd := by
  have c2 := (ba (congrArg (fun z : AlY => z.1) c)).2
  have e2 : (fn.map fun d => fnAt K d.at_)[i]? = (fn.map Df.val)[i]? := by
    rw [show fn.map (fun d => fnAt K d.at_) = fn.map Df.val from congrArg (fun z : AlY => z.2) c]
  rw [List.getElem?_map, List.getElem?_map, h] at e2
  exact Df.funD (Option.some.inj e2) (List.all_eq_true.mp c2 d (List.mem_of_getElem? h))
end
theorem sp_law {K : Fg} {F : List Sl → RS} {H : Hp} {a : Addr} {ns : List Int} (hS : SqL K H a (ns.map V.int)) (hm : ∃ ρ, F [.val (.scr ns)] = .ok (.rt (.bl true)) ρ) : spD K 1 F [.ref a] H (fun v _ => v = .bl true) fun _ _ _ => False := by
  obtain ⟨ρ, e⟩ := hm
  refine ⟨rfl, fun _ => 0, H, [.val (.scr ns)], [], Stt.vals (Same.refl _) (.cons (.scr hS) .nil), ?_⟩
  rw [e]
  intro v G' H' W' fr S r
  cases r
  rfl
end DL

set_option Elab.async false
set_option linter.all false
set_option maxRecDepth 100000
set_option maxHeartbeats 2000000
/-! What the defs do, as functions over data (printed by gen.py). -/
namespace DM
open PySem PySem.Spec PyProof.Rows L2 He DL
def m__law_drop : List Sl → RS := (sSeq (sIf (b1 asB (p2 gtD (p2 ixD (pVarQ 0) (pC (.int 0))) (pC (.int 0)))) (sSeq (sAsg (gTupD (gsCons (gIx 0 (pC (.int 0))) (gsCons (gVar 3) gsNil))) (p2 dmD (p2 ixD (pVarQ 0) (pC (.int 0))) (pVar 1))) (sRet (pVar 3))) sNext) (sSeq (sAsg (gIx 0 (pC (.int 2))) (p2 addD (p2 ixD (pVarQ 0) (pC (.int 2))) (pC (.int 1)))) (sSeq (sAsg (gVar 2) (p2 modD (p1 intD (p2 addD (p2 ixD (pVarQ 0) (pC (.int 1))) (p2 mulD (pC (.int 57037)) (p2 ixD (pVarQ 0) (pC (.int 2)))))) (pC (.int 2147482943)))) (sSeq (sAsg (gIx 0 (pC (.int 1))) (p2 modD (p1 intD (p2 addD (p2 addD (p2 mulD (pVar 2) (p2 addD (p2 modD (p1 intD (pVar 2)) (pC (.int 17011))) (pC (.int 63019)))) (p2 mulD (pC (.int 59)) (p2 ixD (pVarQ 0) (pC (.int 2))))) (pC (.int 19)))) (pC (.int 2147482943)))) (sRet (p2 modD (p2 fdivD (p1 intD (p2 ixD (pVarQ 0) (pC (.int 1)))) (pC (.int 179))) (pVar 1)))))))
def F__law_drop : List Sl → RS := runF 2 (m__law_drop)
def m__law_tags : List Sl → RS := (sSeq (sOwn 3 (pA mkL (aCons (pC (.str "a")) (aCons (pC (.str "bo")) (aCons (pC (.str "c3")) (aCons (pC (.str "dd")) (aCons (pC (.str "ell")) (aCons (pC (.str "f0f0f0f0")) (aCons (pC (.str "g")) (aCons (pC (.str "hut")) (aCons (pC (.str "i9")) (aCons (pC (.str "jo")) (aCons (pC (.str "k")) (aCons (pC (.str "lima")) (aCons (pC (.str "m5")) (aCons (pC (.str "no")) aNil)))))))))))))))) (sSeq (sOwn 4 (pA mkL aNil)) (sSeq (sForE (jRange1 (e2 addD (liftE (pVar 1)) (eCallO F__law_drop 0 (bCons (liftE (p2 addD (p2 subD (pVar 2) (pVar 1)) (pC (.int 1)))) bNil)))) (gVar 5) (sExprE (eApp 4 (ePop 3 (eCallO F__law_drop 0 (bCons (liftE (p1 lenD (pVarR 3))) bNil)))))) (sRet (p1 tupD (pVarQ 4))))))
def F__law_tags : List Sl → RS := runF 3 (m__law_tags)
def m__law_from : List Sl → RS := (sRetE (e2 ixD (liftE (pVar 1)) (eCallO F__law_drop 0 (bCons (liftE (p1 lenD (pVar 1))) bNil))))
def F__law_from : List Sl → RS := runF 0 (m__law_from)
def m__law_links : List Sl → RS := (sSeq (sOwn 3 (pA mkL aNil)) (sSeq (sFor (iRange2 (pC (.int 1)) (p1 lenD (pVar 1))) (gVar 4) (sExprE (eApp 3 (eA mkT (bCons (liftE (p2 ixD (pVar 1) (pVar 4))) (bCons (e2 ixD (liftE (pVar 1)) (eCallO F__law_drop 0 (bCons (liftE (pVar 4)) bNil))) bNil)))))) (sSeq (sForE (jRange1 (eIf (liftB (b1 asB (p2 gtD (p1 lenD (pVar 1)) (pC (.int 2))))) (eCallO F__law_drop 0 (bCons (liftE (p2 addD (pVar 2) (pC (.int 1)))) bNil)) (liftE (pC (.int 0))))) (gVar 5) (sSeq (sPar [8, 9] (vVal (eCallO F__law_from 0 (bCons (liftE (pVar 1)) bNil)) (vVal (eCallO F__law_from 0 (bCons (liftE (pVar 1)) bNil)) vNil))) (sIf (bAnd (b1 asB (p2 neD (pVar 8) (pVar 9))) (bAnd (b1 asB (p2 ninD (pA mkT (aCons (pVar 8) (aCons (pVar 9) aNil))) (pVarR 3))) (b1 asB (p2 ninD (pA mkT (aCons (pVar 9) (aCons (pVar 8) aNil))) (pVarR 3))))) (sExprE (eApp 3 (liftE (pA mkT (aCons (pVar 8) (aCons (pVar 9) aNil)))))) sNext))) (sSeq (sOwn 6 (pA mkL aNil)) (sSeq (sFor (iRange1 (p1 lenD (pVarR 3))) (gVar 5) (sSeq (sAsgE (gVar 7) (ePop 3 (eCallO F__law_drop 0 (bCons (liftE (p1 lenD (pVarR 3))) bNil)))) (sExprE (eApp 6 (eIf (q1 asB (e2 eqD (eCallO F__law_drop 0 (bCons (liftE (pC (.int 2))) bNil)) (liftE (pC (.int 0))))) (liftE (pVar 7)) (liftE (p1 revD (pVar 7)))))))) (sRet (p1 tupD (pVarQ 6))))))))
def F__law_links : List Sl → RS := runF 7 (m__law_links)
def m__law_spans : List Sl → RS := (sSeq (sAsg (gVar 2) (p1 isL (p1 lrD (p1 lenD (pVar 0))))) (sSeq (sOwnG 3 (gLl (i1 itemsD (pVar 2)) [7] (gVar 7) tYes' (pLc (i1 itemsD (pVar 2)) [8] (gVar 8) tYes' (pIf (b1 asB (p2 eqD (pVar 7) (pVar 8))) (pC (.int 0)) (pC (.int 99)))))) (sSeq (sFor (i1 itemsD (pVar 1)) (gTupD (gsCons (gVar 5) (gsCons (gVar 6) gsNil))) (sSeq (sPar [7, 8] (vVal (liftE (pIndex (pVar 0) (pVar 5))) (vVal (liftE (pIndex (pVar 0) (pVar 6))) vNil))) (sAsg (gTupD (gsCons (gIx2 3 (pVar 7) (pVar 8)) (gsCons (gIx2 3 (pVar 8) (pVar 7)) gsNil))) (pA mkT (aCons (pC (.int 1)) (aCons (pC (.int 1)) aNil)))))) (sSeq (sFor (i1 itemsD (pVar 2)) (gVar 4) (sFor (i1 itemsD (pVar 2)) (gVar 7) (sFor (i1 itemsD (pVar 2)) (gVar 8) (sAsg (gIx2 3 (pVar 7) (pVar 8)) (p3 min3D (pIxLL 3 (pVar 7) (pVar 8)) (p2 addD (pIxLL 3 (pVar 7) (pVar 4)) (pIxLL 3 (pVar 4) (pVar 8))) (pC (.int 99))))))) (fun ρ => (sRet (pVar 3)) (frzS 3 ρ))))))
def F__law_spans : List Sl → RS := runF 7 (m__law_spans)
def m_is_name : List Sl → RS := (sSeq (sIf (bOr (bNot (b1 asB (p1 (isK "str") (pVar 0)))) (bNot (b1 asB (pChain leD leD (pC (.int 1)) (p1 lenD (pVar 0)) (pC (.int 8)))))) (sRet (pC (.bl false))) sNext) (sRet (pAnd (p2 inD (p2 ixD (pVar 0) (pC (.int 0))) (pC (.str "abcdefghijklmnopqrstuvwxyz"))) (p1 allD (p1 isL (pLc (i1 signsD (pVar 0)) [1] (gVar 1) tYes' (pOr (p2 inD (pVar 1) (pC (.str "abcdefghijklmnopqrstuvwxyz"))) (p2 inD (pVar 1) (pC (.str "0123456789"))))))))))
def F_is_name : List Sl → RS := runF 1 (m_is_name)
def m_wrong_town : List Sl → RS := (sSeq (sIf (bOr (bNot (b1 asB (p1 (isK "tuple") (pVar 0)))) (b1 asB (p2 eqD (p1 lenD (pVar 0)) (pC (.int 0))))) (sRet (pA mkT (aCons (pC .non) aNil))) sNext) (sSeq (sFor (i1 enumD (pVar 0)) (gTupD (gsCons (gVar 1) (gsCons (gVar 2) gsNil))) (sIf (bOr (bNot (b1 asB (pA (callV F_is_name) (aCons (pVar 2) aNil)))) (bOr (b1 asB (p2 geD (pVar 1) (pC (.int 14)))) (b1 asB (p2 inD (pVar 2) (pSl (pVar 0) oNone (oSome (pVar 1))))))) (sRet (pA mkT (aCons (pVar 1) aNil))) sNext)) (sRet (pA mkT aNil))))
def F_wrong_town : List Sl → RS := runF 2 (m_wrong_town)
def m_is_pair : List Sl → RS := (sSeq (sIf (bOr (bNot (b1 asB (p1 (isK "tuple") (pVar 1)))) (bOr (b1 asB (p2 neD (p1 lenD (pVar 1)) (pC (.int 2)))) (bOr (b1 asB (p2 ninD (p2 ixD (pVar 1) (pC (.int 0))) (pVar 0))) (b1 asB (p2 ninD (p2 ixD (pVar 1) (pC (.int 1))) (pVar 0)))))) (sRet (pC (.bl false))) sNext) (sRet (p2 neD (p2 ixD (pVar 1) (pC (.int 0))) (p2 ixD (pVar 1) (pC (.int 1))))))
def F_is_pair : List Sl → RS := runF 0 (m_is_pair)
def m_is_tied : List Sl → RS := (sRet (pOr (p2 inD (pA mkT (aCons (pVar 1) (aCons (pVar 2) aNil))) (pVar 0)) (p2 inD (pA mkT (aCons (pVar 2) (aCons (pVar 1) aNil))) (pVar 0))))
def F_is_tied : List Sl → RS := runF 0 (m_is_tied)
def m_wrong_tie : List Sl → RS := (sSeq (sIf (bNot (b1 asB (p1 (isK "tuple") (pVar 1)))) (sRet (pA mkT (aCons (pC .non) aNil))) sNext) (sSeq (sFor (i1 enumD (pVar 1)) (gTupD (gsCons (gVar 2) (gsCons (gVar 3) gsNil))) (sIf (bOr (bNot (b1 asB (pA (callV F_is_pair) (aCons (pVar 0) (aCons (pVar 3) aNil))))) (bOr (b1 asB (p2 geD (pVar 2) (pC (.int 60)))) (b1 asB (pA (callV F_is_tied) (aCons (pSl (pVar 1) oNone (oSome (pVar 2))) (aCons (p2 ixD (pVar 3) (pC (.int 0))) (aCons (p2 ixD (pVar 3) (pC (.int 1))) aNil))))))) (sRet (pA mkT (aCons (pVar 2) aNil))) sNext)) (sRet (pA mkT aNil))))
def F_wrong_tie : List Sl → RS := runF 2 (m_wrong_tie)
def m_distances_from : List Sl → RS := (sSeq (sPar [2, 3, 4] (vFr (pLc (i1 itemsD (pVar 0)) [6] (gVar 6) tYes' (pC .non)) (vVal (liftE (p1 isL (pA mkL (aCons (pVar 1) aNil)))) (vVal (liftE (pC (.int 0))) vNil)))) (sSeq (sAsg (gIx 2 (pVar 1)) (pC (.int 0))) (sSeq (whileGo (b1 asB (p2 neD (pVar 3) (p1 isL (pA mkL aNil)))) (sSeq (sAug iAdd 4 (liftE (pC (.int 1)))) (sSeq (sOwn 5 (pA mkL aNil)) (sSeq (sFor (i1 itemsD (pVar 3)) (gVar 6) (sFor (i1 itemsD (p2 ixD (pVar 0) (pVar 6))) (gVar 7) (sIf (b1 asB (p2 isD (p2 ixD (pVarQ 2) (pVar 7)) (pC .non))) (sSeq (sAsg (gIx 2 (pVar 7)) (pVar 4)) (sExprE (eApp 5 (liftE (pVar 7))))) sNext))) (fun ρ => (sAsg (gVar 3) (pVar 5)) (frzS 5 ρ))))) 64) (fun ρ => (sRet (pVar 2)) (frzS 2 ρ)))))
def F_distances_from : List Sl → RS := runF 6 (m_distances_from)
def m_neighbours : List Sl → RS := (sSeq (sOwnG 2 (gLl (i1 itemsD (pVar 0)) [5] (gVar 5) tYes' (pA mkL aNil))) (sSeq (sFor (i1 itemsD (pVar 1)) (gTupD (gsCons (gVar 3) (gsCons (gVar 4) gsNil))) (sSeq (sPar [6, 7] (vVal (liftE (pIndex (pVar 0) (pVar 3))) (vVal (liftE (pIndex (pVar 0) (pVar 4))) vNil))) (sSeq (sExprE (eAppLL 2 (pVar 6) (pVar 7))) (sExprE (eAppLL 2 (pVar 7) (pVar 6)))))) (fun ρ => (sRet (pVar 2)) (frzS 2 ρ))))
def F_neighbours : List Sl → RS := runF 6 (m_neighbours)
def m_first_apart : List Sl → RS := (sSeq (sAsg (gVar 2) (pA (callV F_distances_from) (aCons (pA (callV F_neighbours) (aCons (pVar 0) (aCons (pVar 1) aNil))) (aCons (pC (.int 0)) aNil)))) (sRet (pIf (b1 asB (p2 inD (pC .non) (pVar 2))) (p2 ixD (pVar 0) (pIndex (pVar 2) (pC .non))) (pC .non))))
def F_first_apart : List Sl → RS := runF 1 (m_first_apart)
def m_all_distances : List Sl → RS := (sSeq (sAsg (gVar 2) (pA (callV F_neighbours) (aCons (pVar 0) (aCons (pVar 1) aNil)))) (sRet (p1 isL (pLc (iRange1 (p1 lenD (pVar 0))) [3] (gVar 3) tYes' (pA (callV F_distances_from) (aCons (pVar 2) (aCons (pVar 3) aNil)))))))
def F_all_distances : List Sl → RS := runF 2 (m_all_distances)
def m_Web___init__ (K : Fg) : List Sl → RS := (sSeq (sAsg (gVar 3) (pA (callV F_wrong_town) (aCons (pVar 1) aNil))) (sSeq (sIf (b1 asB (p2 neD (pVar 3) (pA mkT aNil))) sNever sNext) (sSeq (sAsg (gVar 3) (pA (callV F_wrong_tie) (aCons (pVar 1) (aCons (pVar 2) aNil)))) (sSeq (sIf (b1 asB (p2 neD (pVar 3) (pA mkT aNil))) sNever sNext) (sSeq (sAsg (gVar 4) (pA (callV F_first_apart) (aCons (pVar 1) (aCons (pVar 2) aNil)))) (sSeq (sIf (b1 asB (p2 isnD (pVar 4) (pC .non))) sNever sNext) (sSeq (sSetF (ga K "Web") "places" 0 (liftE (pVar 1))) (sSeq (sSetF (ga K "Web") "roads" 0 (liftE (pVar 2))) (sSeq (sSetF (ga K "Web") "ways" 0 (liftE (pA (callV F_all_distances) (aCons (pVar 1) (aCons (pVar 2) aNil))))) (sSetF (ga K "Web") "pairs" 0 (liftE (p1 tupD (p1 isL (pLc (i1 itemsD (pVar 2)) [5, 6] (gTupD (gsCons (gVar 5) (gsCons (gVar 6) gsNil))) tYes' (pA mkT (aCons (pIndex (pVar 1) (pVar 5)) (aCons (pIndex (pVar 1) (pVar 6)) aNil)))))))))))))))))
def F_Web___init__ (K : Fg) : List Sl → RS := runF 4 (m_Web___init__ K)
def m_check_web (K : Fg) : List Sl → RS := (sIf (bNot (b1 asB (p1 (isCD K [ga K "Web"] (ga K "Web")) (pVar 0)))) sNever sNext)
def F_check_web (K : Fg) : List Sl → RS := runF 0 (m_check_web K)
def m_Web_far (K : Fg) : List Sl → RS := (sRet (p1 tupD (p1 isL (pLc (i1 itemsD (pFldO (ga K "Web") "ways" 0)) [1] (gVar 1) tYes' (p1 tupD (pVar 1))))))
def F_Web_far (K : Fg) : List Sl → RS := runF 1 (m_Web_far K)
def m_distances (K : Fg) : List Sl → RS := (sSeq (sExpr (pA (callV (F_check_web K)) (aCons (pVar 0) aNil))) (sRet (p1 (prD (ga K "Web") (F_Web_far K)) (pVar 0))))
def F_distances (K : Fg) : List Sl → RS := runF 0 (m_distances K)
def m_Web_towns (K : Fg) : List Sl → RS := (sRet (pFldO (ga K "Web") "places" 0))
def F_Web_towns (K : Fg) : List Sl → RS := runF 0 (m_Web_towns K)
def m_place_of (K : Fg) : List Sl → RS := (sSeq (sIf (b1 asB (p2 ninD (pVar 1) (p1 (prD (ga K "Web") (F_Web_towns K)) (pVar 0)))) sNever sNext) (sRet (pIndex (p1 (prD (ga K "Web") (F_Web_towns K)) (pVar 0)) (pVar 1))))
def F_place_of (K : Fg) : List Sl → RS := runF 0 (m_place_of K)
def m_two_places (K : Fg) : List Sl → RS := (sSeq (sExpr (pA (callV (F_check_web K)) (aCons (pVar 0) aNil))) (sRet (pA mkT (aCons (pA (callV (F_place_of K)) (aCons (pVar 0) (aCons (pVar 1) aNil))) (aCons (pA (callV (F_place_of K)) (aCons (pVar 0) (aCons (pVar 2) aNil))) aNil)))))
def F_two_places (K : Fg) : List Sl → RS := runF 0 (m_two_places K)
def m_distance (K : Fg) : List Sl → RS := (sSeq (sAsg (gTupD (gsCons (gVar 3) (gsCons (gVar 4) gsNil))) (pA (callV (F_two_places K)) (aCons (pVar 0) (aCons (pVar 1) (aCons (pVar 2) aNil))))) (sRet (p2 ixD (p2 ixD (p1 (prD (ga K "Web") (F_Web_far K)) (pVar 0)) (pVar 3)) (pVar 4))))
def F_distance (K : Fg) : List Sl → RS := runF 2 (m_distance K)
def m__law_right (K : Fg) : List Sl → RS := (sSeq (sFor (iRange1 (pC (.int 4))) (gVar 1) (sSeq (sAsgE (gVar 2) (eCallO F__law_tags 0 (bCons (liftE (pC (.int 1))) (bCons (liftE (pC (.int 14))) bNil)))) (sSeq (sAsgE (gVar 3) (eCallO F__law_links 0 (bCons (liftE (pVar 2)) (bCons (liftE (pC (.int 20))) bNil)))) (sSeq (sPar [6, 7] (vVal (liftE (pFrz (pAO (mkD (F_Web___init__ K) (ga K "Web") 3 [0, 1] [(.tup [])]) (aLen 2 (aCons (pVar 2) (aCons (pVar 3) aNil)))))) (vVal (liftE (pA (callV F__law_spans) (aCons (pVar 2) (aCons (pVar 3) aNil)))) vNil))) (sSeq (sAsg (gVar 4) (p1 tupD (p1 isL (pLc (i1 itemsD (pVar 7)) [13] (gVar 13) tYes' (p1 tupD (pVar 13)))))) (sSeq (sIf (b1 asB (p2 neD (p1 reprD (p1 isL (pA mkL (aCons (pA (callV (F_distances K)) (aCons (pVar 6) aNil)) (aCons (pA (callA (F_distances K) 1 [0] []) (aLen 1 (aCons (pVar 6) aNil))) aNil))))) (p1 reprD (p1 isL (pA mkL (aCons (pVar 4) (aCons (pVar 4) aNil))))))) (sRet (pC (.bl false))) sNext) (sSeq (sFor (iRange1 (p1 lenD (pVar 2))) (gVar 5) (sSeq (sAsg (gVar 8) (p1 isL (pLc (i1 itemsD (pVar 2)) [14] (gVar 14) tYes' (pA (callV (F_distance K)) (aCons (pVar 6) (aCons (p2 ixD (pVar 2) (pVar 5)) (aCons (pVar 14) aNil))))))) (sSeq (sAsg (gVar 9) (p1 isL (pLc (i1 itemsD (pVar 2)) [14] (gVar 14) tYes' (pA (callA (F_distance K) 3 [2, 1, 0] []) (aLen 3 (aCons (p2 ixD (pVar 2) (pVar 5)) (aCons (pVar 14) (aCons (pVar 6) aNil)))))))) (sIf (b1 asB (p2 neD (p1 reprD (p1 isL (pA mkL (aCons (pVar 8) (aCons (pVar 9) aNil))))) (p1 reprD (p1 isL (pA mkL (aCons (p2 ixD (pVar 7) (pVar 5)) (aCons (p2 ixD (pVar 7) (pVar 5)) aNil))))))) (sRet (pC (.bl false))) sNext)))) (sFor (i1 itemsD (pVar 3)) (gTupD (gsCons (gVar 10) (gsCons (gVar 11) gsNil))) (sSeq (sPar [5, 12] (vVal (liftE (pIndex (pVar 2) (pVar 10))) (vVal (liftE (pIndex (pVar 2) (pVar 11))) vNil))) (sIf (bOr (b1 asB (p2 neD (p2 ixD (p2 ixD (pVar 7) (pVar 5)) (pVar 12)) (pC (.int 1)))) (b1 asB (p2 neD (p1 isL (pLc (iRange1 (p1 lenD (pVar 2))) [15] (gVar 15) (b1 asB (p2 gtD (p1 absD (p2 subD (p2 ixD (p2 ixD (pVar 4) (pVar 5)) (pVar 15)) (p2 ixD (p2 ixD (pVar 4) (pVar 12)) (pVar 15)))) (pC (.int 1)))) (pVar 15))) (p1 isL (pA mkL aNil))))) (sRet (pC (.bl false))) sNext)))))))))) (sRet (pAnd (p2 eqD (pA (callV (F_distances K)) (aCons (pFrz (pAO (mkD (F_Web___init__ K) (ga K "Web") 3 [0, 1] [(.tup [])]) (aLen 1 (aCons (pA mkT (aCons (pC (.str "a")) aNil)) aNil)))) aNil)) (pA mkT (aCons (pA mkT (aCons (pC (.int 0)) aNil)) aNil))) (p2 eqD (pA (callV (F_distance K)) (aCons (pFrz (pAO (mkD (F_Web___init__ K) (ga K "Web") 3 [0, 1] [(.tup [])]) (aLen 1 (aCons (pA mkT (aCons (pC (.str "a")) aNil)) aNil)))) (aCons (pC (.str "a")) (aCons (pC (.str "a")) aNil)))) (pC (.int 0))))))
def F__law_right (K : Fg) : List Sl → RS := runF 15 (m__law_right K)
def m__law_phial_of : List Sl → RS := (sSeq (sPar [2, 3] (vVal (liftE (pIf (b1 asB (p2 ltD (pVar 1) (p1 lenD (pVar 0)))) (p2 ixD (pVar 0) (pVar 1)) (pC (.int 0)))) (vVal (liftE (p2 addD (pC (.int 8009)) (p2 mulD (pC (.int 90019)) (pVar 1)))) vNil))) (sSeq (sFor (i1 enumD (pSl (pVar 0) oNone (oSome (pC (.int 7))))) (gTupD (gsCons (gVar 4) (gsCons (gVar 5) gsNil))) (sAsg (gVar 3) (p2 modD (p1 intD (p2 addD (p2 mulD (pVar 3) (p2 addD (pC (.int 16033)) (p2 mulD (pC (.int 46)) (pVar 4)))) (p2 mulD (pC (.int 17)) (pVar 5)))) (pC (.int 2147482943))))) (sRetF (pA mkL (aCons (pIf (bOr (b1 asB (p2 ltD (pVar 2) (pC (.int 0)))) (b1 asB (p2 geD (pVar 2) (p2 powD (pC (.int 10)) (pC (.int 16)))))) (p1 absD (pVar 2)) (pC (.int 0))) (aCons (p2 modD (p1 intD (p2 addD (pVar 3) (p2 mulD (pC (.int 32009)) (pVar 2)))) (pC (.int 2147482943))) (aCons (pC (.int 0)) aNil)))))))
def F__law_phial_of : List Sl → RS := runF 4 (m__law_phial_of)
def m_law (K : Fg) : List Sl → RS := (sRet (p1 allD (p1 isL (pLc (iRange1 (p2 maxD (pC (.int 2)) (p2 minD (p1 lenD (pVar 0)) (pC (.int 5))))) [1] (gVar 1) tYes' (pCallF (F__law_right K) (gLst (pA (callL F__law_phial_of) (aCons (pVar 0) (aCons (pVar 1) aNil)))))))))
def F_law (K : Fg) : List Sl → RS := runF 1 (m_law K)
def m__wall : List Sl → RS := (whileGo (b1 asB (pC (.bl true))) sNext 64)
def F__wall : List Sl → RS := runF 0 (m__wall)
def m_InvalidText___init__ (K : Fg) : List Sl → RS := (sSetF (ga K "InvalidText") "given" 0 (liftE (pVar 1)))
def F_InvalidText___init__ (K : Fg) : List Sl → RS := runF 0 (m_InvalidText___init__ K)
def m_NotAWeb___init__ (K : Fg) : List Sl → RS := (sSetF (ga K "NotAWeb") "given" 0 (liftE (pVar 1)))
def F_NotAWeb___init__ (K : Fg) : List Sl → RS := runF 0 (m_NotAWeb___init__ K)
def m_InvalidTowns___init__ (K : Fg) : List Sl → RS := (sSetF (ga K "InvalidTowns") "index" 0 (liftE (pVar 1)))
def F_InvalidTowns___init__ (K : Fg) : List Sl → RS := runF 0 (m_InvalidTowns___init__ K)
def m_InvalidTies___init__ (K : Fg) : List Sl → RS := (sSetF (ga K "InvalidTies") "index" 0 (liftE (pVar 1)))
def F_InvalidTies___init__ (K : Fg) : List Sl → RS := runF 0 (m_InvalidTies___init__ K)
def m_UnknownName___init__ (K : Fg) : List Sl → RS := (sSetF (ga K "UnknownName") "given" 0 (liftE (pVar 1)))
def F_UnknownName___init__ (K : Fg) : List Sl → RS := runF 0 (m_UnknownName___init__ K)
def m_Apart___init__ (K : Fg) : List Sl → RS := (sSetF (ga K "Apart") "given" 0 (liftE (pVar 1)))
def F_Apart___init__ (K : Fg) : List Sl → RS := runF 0 (m_Apart___init__ K)
def m_lines_of : List Sl → RS := (sSeq (sAsg (gVar 2) (p1 isL (pA mkL (aCons (pM1 joinD (pC (.str " ")) (pVar 0)) aNil)))) (sSeq (sFor (i1 itemsD (pVar 1)) (gTupD (gsCons (gVar 3) (gsCons (gVar 4) gsNil))) (sAsg (gVar 2) (p2 addD (pVar 2) (p1 isL (pA mkL (aCons (pJs [(p1 fmtD (pVar 3)), (pC (.str " - ")), (p1 fmtD (pVar 4))] Str.empty) aNil)))))) (sRet (pVar 2))))
def F_lines_of : List Sl → RS := runF 3 (m_lines_of)
def m_read_web : List Sl → RS := (sSeq (sIf (bNot (b1 asB (p1 (isK "str") (pVar 0)))) (sRet (pC .non)) sNext) (sSeq (sAsg (gVar 1) (pM1 splitD (pVar 0) (pC (.str "\n")))) (sSeq (sAsg (gVar 2) (p1 tupD (pM1 splitD (p2 ixD (pVar 1) (pC (.int 0))) (pC (.str " "))))) (sSeq (sAsg (gVar 3) (p1 tupD (p1 isL (pLc (i1 itemsD (pSl (pVar 1) (oSome (pC (.int 1))) oNone)) [4] (gVar 4) tYes' (p1 tupD (pM1 splitD (pVar 4) (pC (.str " - ")))))))) (sSeq (sIf (bOr (b1 asB (p2 neD (pA (callV F_wrong_town) (aCons (pVar 2) aNil)) (pA mkT aNil))) (bOr (b1 asB (p2 neD (pA (callV F_wrong_tie) (aCons (pVar 2) (aCons (pVar 3) aNil))) (pA mkT aNil))) (b1 asB (p2 isnD (pA (callV F_first_apart) (aCons (pVar 2) (aCons (pVar 3) aNil))) (pC .non))))) (sRet (pC .non)) sNext) (sRet (pA mkT (aCons (pVar 2) (aCons (pVar 3) aNil)))))))))
def F_read_web : List Sl → RS := runF 4 (m_read_web)
def m_Web_ties (K : Fg) : List Sl → RS := (sRet (pFldO (ga K "Web") "roads" 0))
def F_Web_ties (K : Fg) : List Sl → RS := runF 0 (m_Web_ties K)
def m_Web_steps (K : Fg) : List Sl → RS := (sExpr (pA (callV F__wall) (aCons (pC (.int 0)) aNil)))
def F_Web_steps (K : Fg) : List Sl → RS := runF 0 (m_Web_steps K)
def m_Web___len__ (K : Fg) : List Sl → RS := (sRet (p1 lenD (pFldO (ga K "Web") "places" 0)))
def F_Web___len__ (K : Fg) : List Sl → RS := runF 0 (m_Web___len__ K)
def m_Web___bool__ (K : Fg) : List Sl → RS := (sRet (pC (.bl true)))
def F_Web___bool__ (K : Fg) : List Sl → RS := runF 0 (m_Web___bool__ K)
def m_Web___eq__ (K : Fg) : List Sl → RS := (sRet (pAnd (p1 (isCD K [ga K "Web"] (ga K "Web")) (pVar 1)) (pAnd (p2 eqD (pFldO (ga K "Web") "places" 0) (pFldO (ga K "Web") "places" 1)) (p2 eqD (pFldO (ga K "Web") "roads" 0) (pFldO (ga K "Web") "roads" 1)))))
def F_Web___eq__ (K : Fg) : List Sl → RS := runF 0 (m_Web___eq__ K)
def m_Web___str__ (K : Fg) : List Sl → RS := (sSeq (sAsg (gVar 1) (pA (callV F_lines_of) (aCons (pFldO (ga K "Web") "places" 0) (aCons (pFldO (ga K "Web") "roads" 0) aNil)))) (sRet (pM1 joinD (pC (.str "\n")) (pVar 1))))
def F_Web___str__ (K : Fg) : List Sl → RS := runF 1 (m_Web___str__ K)
def m_all_between : List Sl → RS := (sRet (p1 isL (pLc (iRange1 (p1 lenD (pVar 0))) [3] (gVar 3) (b1 asB (p2 eqD (p2 addD (p2 ixD (p2 ixD (pVar 0) (pVar 1)) (pVar 3)) (p2 ixD (p2 ixD (pVar 0) (pVar 3)) (pVar 2))) (p2 ixD (p2 ixD (pVar 0) (pVar 1)) (pVar 2)))) (pVar 3))))
def F_all_between : List Sl → RS := runF 1 (m_all_between)
def m_named (K : Fg) : List Sl → RS := (sRet (p1 tupD (p1 isL (pLc (i1 itemsD (p1 isL (p1 sortD (pVar 1)))) [2] (gVar 2) tYes' (p2 ixD (p1 (prD (ga K "Web") (F_Web_towns K)) (pVar 0)) (pVar 2))))))
def F_named (K : Fg) : List Sl → RS := runF 1 (m_named K)
def m_between (K : Fg) : List Sl → RS := (sSeq (sAsg (gTupD (gsCons (gVar 3) (gsCons (gVar 4) gsNil))) (pA (callV (F_two_places K)) (aCons (pVar 0) (aCons (pVar 1) (aCons (pVar 2) aNil))))) (sRet (pA (callV (F_named K)) (aCons (pVar 0) (aCons (pA (callV F_all_between) (aCons (p1 (prD (ga K "Web") (F_Web_far K)) (pVar 0)) (aCons (pVar 3) (aCons (pVar 4) aNil)))) aNil)))))
def F_between (K : Fg) : List Sl → RS := runF 2 (m_between K)
def m__law_known : List Sl → RS := (sSeq (sPar [4, 5] (vVal (eCallO F__law_from 0 (bCons (liftE (p1 isL (pA mkL (aCons (pC (.str "row")) (aCons (pC (.str "round")) (aCons (pC (.str "star")) (aCons (pC (.str "all")) (aCons (pC (.str "lots")) (aCons (pC (.str "board")) (aCons (pC (.str "cube")) aNil)))))))))) bNil)) (vVal (e2 addD (liftE (pC (.int 3))) (eCallO F__law_drop 0 (bCons (liftE (pC (.int 4))) bNil))) vNil))) (sSeq (sAsg (gVar 1) (p1 tupD (p1 isL (pLc (iRange1 (pC (.int 14))) [3] (gVar 3) tYes' (p2 addD (pC (.str "t")) (p1 strD (pVar 3))))))) (sSeq (sIf (b1 asB (p2 eqD (pVar 4) (pC (.str "row")))) (sRet (pA mkT (aCons (pVar 4) (aCons (pSl (pVar 1) oNone (oSome (pVar 5))) (aCons (p1 tupD (p1 isL (pLc (iRange1 (p2 subD (pVar 5) (pC (.int 1)))) [3] (gVar 3) tYes' (pA mkT (aCons (p2 ixD (pVar 1) (pVar 3)) (aCons (p2 ixD (pVar 1) (p2 addD (pVar 3) (pC (.int 1)))) aNil)))))) aNil))))) sNext) (sSeq (sIf (b1 asB (p2 eqD (pVar 4) (pC (.str "round")))) (sRet (pA mkT (aCons (pVar 4) (aCons (pSl (pVar 1) oNone (oSome (pVar 5))) (aCons (p1 tupD (p1 isL (pLc (iRange1 (pVar 5)) [3] (gVar 3) tYes' (pA mkT (aCons (p2 ixD (pVar 1) (pVar 3)) (aCons (p2 ixD (pVar 1) (p2 modD (p1 intD (p2 addD (pVar 3) (pC (.int 1)))) (pVar 5))) aNil)))))) aNil))))) sNext) (sSeq (sIf (b1 asB (p2 eqD (pVar 4) (pC (.str "star")))) (sRet (pA mkT (aCons (pVar 4) (aCons (pSl (pVar 1) oNone (oSome (pVar 5))) (aCons (p1 tupD (p1 isL (pLc (iRange2 (pC (.int 1)) (pVar 5)) [3] (gVar 3) tYes' (pA mkT (aCons (p2 ixD (pVar 1) (pC (.int 0))) (aCons (p2 ixD (pVar 1) (pVar 3)) aNil)))))) aNil))))) sNext) (sSeq (sIf (b1 asB (p2 eqD (pVar 4) (pC (.str "lots")))) (sRet (pA mkT (aCons (pVar 4) (aCons (pSl (pVar 1) oNone (oSome (p2 addD (pVar 5) (pC (.int 2))))) (aCons (p1 tupD (p1 isL (pLc (iRange1 (p2 mulD (pC (.int 2)) (pVar 5))) [3] (gVar 3) tYes' (pA mkT (aCons (p2 ixD (pVar 1) (p2 modD (p1 intD (pVar 3)) (pC (.int 2)))) (aCons (p2 ixD (pVar 1) (p2 addD (pC (.int 2)) (p2 fdivD (pVar 3) (pC (.int 2))))) aNil)))))) aNil))))) sNext) (sSeq (sAsg (gVar 2) (p1 isL (pA mkL aNil))) (sSeq (sIf (b1 asB (p2 eqD (pVar 4) (pC (.str "all")))) (sSeq (sFor (iRange1 (pVar 5)) (gVar 3) (sAsg (gVar 2) (p2 addD (pVar 2) (p1 isL (pLc (iRange1 (pVar 3)) [7] (gVar 7) tYes' (pA mkT (aCons (p2 ixD (pVar 1) (pVar 7)) (aCons (p2 ixD (pVar 1) (pVar 3)) aNil)))))))) (sRet (pA mkT (aCons (pVar 4) (aCons (pSl (pVar 1) oNone (oSome (pVar 5))) (aCons (p1 tupD (pVar 2)) aNil)))))) sNext) (sSeq (sIf (b1 asB (p2 eqD (pVar 4) (pC (.str "board")))) (sSeq (sFor (iRange1 (p2 mulD (pC (.int 2)) (pVar 5))) (gVar 3) (sSeq (sAsg (gVar 2) (p2 addD (pVar 2) (pIf (b1 asB (p2 ltD (p2 addD (pVar 3) (pC (.int 2))) (p2 mulD (pC (.int 2)) (pVar 5)))) (p1 isL (pA mkL (aCons (pA mkT (aCons (p2 ixD (pVar 1) (pVar 3)) (aCons (p2 ixD (pVar 1) (p2 addD (pVar 3) (pC (.int 2)))) aNil))) aNil))) (p1 isL (pA mkL aNil))))) (sAsg (gVar 2) (p2 addD (pVar 2) (pIf (b1 asB (p2 eqD (p2 modD (p1 intD (pVar 3)) (pC (.int 2))) (pC (.int 0)))) (p1 isL (pA mkL (aCons (pA mkT (aCons (p2 ixD (pVar 1) (pVar 3)) (aCons (p2 ixD (pVar 1) (p2 addD (pVar 3) (pC (.int 1)))) aNil))) aNil))) (p1 isL (pA mkL aNil))))))) (sRet (pA mkT (aCons (pVar 4) (aCons (pSl (pVar 1) oNone (oSome (p2 mulD (pC (.int 2)) (pVar 5)))) (aCons (p1 tupD (pVar 2)) aNil)))))) sNext) (sSeq (sFor (iRange1 (pC (.int 8))) (gVar 3) (sAsg (gVar 2) (p2 addD (pVar 2) (p1 isL (pLc (i1 itemsD (p1 isL (pA mkL (aCons (pC (.int 1)) (aCons (pC (.int 2)) (aCons (pC (.int 4)) aNil)))))) [6] (gVar 6) (b1 asB (p2 eqD (p2 modD (p1 intD (p2 fdivD (pVar 3) (pVar 6))) (pC (.int 2))) (pC (.int 0)))) (pA mkT (aCons (p2 ixD (pVar 1) (pVar 3)) (aCons (p2 ixD (pVar 1) (p2 addD (pVar 3) (pVar 6))) aNil)))))))) (sRet (pA mkT (aCons (pVar 4) (aCons (pSl (pVar 1) oNone (oSome (pC (.int 8)))) (aCons (p1 tupD (pVar 2)) aNil)))))))))))))))
def F__law_known : List Sl → RS := runF 7 (m__law_known)
def m__law_on_ways : List Sl → RS := (sSeq (sPar [6, 7] (vVal (liftE (p1 isL (pA mkL (aCons (pVar 3) aNil)))) (vVal (liftE (p1 isL (pA mkL (aCons (pVar 3) aNil)))) vNil))) (sSeq (sFor (iRange1 (p2 ixD (p2 ixD (pVar 2) (pVar 3)) (pVar 4))) (gVar 5) (sSeq (sOwn 8 (pA mkL aNil)) (sSeq (sFor (i1 itemsD (pVar 6)) (gVar 9) (sFor (i1 itemsD (p2 addD (pVar 1) (p1 tupD (p1 isL (pLc (i1 itemsD (pVar 1)) [12] (gVar 12) tYes' (p1 revD (pVar 12))))))) (gTupD (gsCons (gVar 10) (gsCons (gVar 11) gsNil))) (sIf (bAnd (b1 asB (p2 eqD (pIndex (pVar 0) (pVar 10)) (pVar 9))) (bAnd (b1 asB (p2 eqD (p2 ixD (p2 ixD (pVar 2) (pIndex (pVar 0) (pVar 11))) (pVar 4)) (p2 subD (p2 ixD (p2 ixD (pVar 2) (pVar 9)) (pVar 4)) (pC (.int 1))))) (b1 asB (p2 ninD (pIndex (pVar 0) (pVar 11)) (pVarR 8))))) (sExprE (eApp 8 (liftE (pIndex (pVar 0) (pVar 11))))) sNext))) (sSeq (fun ρ => (sAsg (gVar 6) (pVar 8)) (frzS 8 ρ)) (sAsg (gVar 7) (p2 addD (pVar 7) (pVarQ 8))))))) (sRet (p1 isL (p1 sortD (pVar 7))))))
def F__law_on_ways : List Sl → RS := runF 8 (m__law_on_ways)
def m__law_right__v2 (K : Fg) : List Sl → RS := (sSeq (sFor (iRange1 (pC (.int 4))) (gVar 1) (sSeq (sAsgE (gVar 2) (eCallO F__law_tags 0 (bCons (liftE (pC (.int 1))) (bCons (liftE (pC (.int 10))) bNil)))) (sSeq (sAsgE (gVar 3) (eCallO F__law_links 0 (bCons (liftE (pVar 2)) (bCons (liftE (pC (.int 10))) bNil)))) (sSeq (sIf (b1 asB (p2 eqD (pVar 1) (pC (.int 0)))) (sAsgE (gTupD (gsCons (gVar 9) (gsCons (gVar 2) (gsCons (gVar 3) gsNil)))) (eCallO F__law_known 0 bNil)) sNext) (sSeq (sPar [5, 6] (vVal (liftE (pFrz (pAO (mkD (F_Web___init__ K) (ga K "Web") 3 [0, 1] [(.tup [])]) (aLen 2 (aCons (pVar 2) (aCons (pVar 3) aNil)))))) (vVal (liftE (pA (callV F__law_spans) (aCons (pVar 2) (aCons (pVar 3) aNil)))) vNil))) (sFor (iRange1 (pC (.int 6))) (gVar 4) (sSeq (sPar [10, 11] (vVal (eCallO F__law_drop 0 (bCons (liftE (p1 lenD (pVar 2))) bNil)) (vVal (eCallO F__law_drop 0 (bCons (liftE (p1 lenD (pVar 2))) bNil)) vNil))) (sSeq (sAsg (gVar 7) (p1 tupD (p1 isL (pLc (i1 itemsD (pA (callV F__law_on_ways) (aCons (pVar 2) (aCons (pVar 3) (aCons (pVar 6) (aCons (pVar 10) (aCons (pVar 11) aNil))))))) [12] (gVar 12) tYes' (p2 ixD (pVar 2) (pVar 12)))))) (sSeq (sAsg (gVar 8) (p1 isL (pA mkL (aCons (pA (callV (F_between K)) (aCons (pVar 5) (aCons (p2 ixD (pVar 2) (pVar 10)) (aCons (p2 ixD (pVar 2) (pVar 11)) aNil)))) (aCons (pA (callA (F_between K) 3 [2, 1, 0] []) (aLen 3 (aCons (p2 ixD (pVar 2) (pVar 11)) (aCons (p2 ixD (pVar 2) (pVar 10)) (aCons (pVar 5) aNil))))) aNil))))) (sSeq (sIf (b1 asB (p2 neD (p1 reprD (p2 addD (pVar 8) (p1 isL (pA mkL (aCons (pA (callV (F_between K)) (aCons (pVar 5) (aCons (p2 ixD (pVar 2) (pVar 11)) (aCons (p2 ixD (pVar 2) (pVar 10)) aNil)))) aNil))))) (p1 reprD (p2 mulD (p1 isL (pA mkL (aCons (pVar 7) aNil))) (pC (.int 3)))))) (sRet (pC (.bl false))) sNext) (sIf (bOr (b1 asB (p2 neD (pA (callV (F_between K)) (aCons (pVar 5) (aCons (p2 ixD (pVar 2) (pVar 10)) (aCons (p2 ixD (pVar 2) (pVar 10)) aNil)))) (pA mkT (aCons (p2 ixD (pVar 2) (pVar 10)) aNil)))) (bOr (b1 asB (p2 ninD (p2 ixD (pVar 2) (pVar 10)) (pVar 7))) (b1 asB (p2 ninD (p2 ixD (pVar 2) (pVar 11)) (pVar 7))))) (sRet (pC (.bl false))) sNext))))))))))) (sRet (pC (.bl true))))
def F__law_right__v2 (K : Fg) : List Sl → RS := runF 12 (m__law_right__v2 K)
def m_law__v2 (K : Fg) : List Sl → RS := (sRet (p1 allD (p1 isL (pLc (iRange1 (p2 maxD (pC (.int 2)) (p2 minD (p1 lenD (pVar 0)) (pC (.int 5))))) [1] (gVar 1) tYes' (pCallF (F__law_right__v2 K) (gLst (pA (callL F__law_phial_of) (aCons (pVar 0) (aCons (pVar 1) aNil)))))))))
def F_law__v2 (K : Fg) : List Sl → RS := runF 1 (m_law__v2 K)
end DM

set_option Elab.async false
set_option linter.all false
set_option maxRecDepth 100000
set_option maxHeartbeats 2000000
/-! The mathematics, first part: mirrors are computed; loops by invariants. -/
namespace MA
open PySem PySem.Spec PyProof.Rows L2 He DL DM
section
variable {ρ ρ' : List Sl} {i j : Nat} {d x y : D} {f g h : List Sl → R D} {fe ge : List Sl → RE} {t u : List Sl → R Bool}
@[simp] theorem v_pVar : pVar i ρ = (match ρ[i]? with | some (.val d) => .ok d | _ => .st) := rfl
@[simp] theorem v_pVarQ : pVarQ i ρ = (match ρ[i]? with | some (.val d) => .ok d | some (.own _ (.lst ds)) => .ok (.lst ds) | _ => .st) := rfl
@[simp] theorem v_pVarR : pVarR i ρ = (match ρ[i]? with | some (.val d) => .ok d | some (.own _ (.lst ds)) => .ok (.lst ds) | some (.own _ (.ll dss)) => .ok (.lst (dss.map .lst)) | _ => .st) := rfl
@[simp] theorem v_pC : pC d ρ = .ok d := rfl
@[simp] theorem v_p1 {F : D → R D} : p1 F f ρ = (f ρ).bind F := rfl
@[simp] theorem v_p2 {F : D → D → R D} : p2 F f g ρ = (f ρ).bind fun x => (g ρ).bind fun y => F x y := rfl
@[simp] theorem v_p3 {F : D → D → D → R D} : p3 F f g h ρ = (f ρ).bind fun x => (g ρ).bind fun y => (h ρ).bind fun z => F x y z := rfl
@[simp] theorem v_aNil : aNil ρ = .ok [] := rfl
@[simp] theorem v_aCons {ga : List Sl → R (List D)} : aCons f ga ρ = (f ρ).bind fun x => (ga ρ).bind fun xs => .ok (x :: xs) := rfl
@[simp] theorem v_pA {F : List D → R D} {ga : List Sl → R (List D)} : pA F ga ρ = (ga ρ).bind F := rfl
@[simp] theorem v_b1 {F : D → R Bool} : b1 F f ρ = (f ρ).bind F := rfl
@[simp] theorem v_asB {b : Bool} : asB (.bl b) = .ok b := rfl
@[simp] theorem v_bAnd : bAnd t u ρ = (t ρ).bind fun c => if c then u ρ else .ok false := rfl
@[simp] theorem v_bOr : bOr t u ρ = (t ρ).bind fun c => if c then .ok true else u ρ := rfl
@[simp] theorem v_bNot : bNot t ρ = (t ρ).bind fun c => .ok !c := rfl
@[simp] theorem v_pIf : pIf t f g ρ = (t ρ).bind fun b => if b then f ρ else g ρ := rfl
@[simp] theorem v_pAnd : pAnd f g ρ = (f ρ).bind fun x => match x with | .bl true => g ρ | .bl false => .ok (.bl false) | _ => .st := rfl
@[simp] theorem v_pOr : pOr f g ρ = (f ρ).bind fun x => match x with | .bl true => .ok (.bl true) | .bl false => g ρ | _ => .st := rfl
@[simp] theorem v_liftE : liftE f ρ = up (f ρ) ρ := rfl
@[simp] theorem v_e1 {F : D → R D} : e1 F fe ρ = (fe ρ).bind fun x ρ1 => up (F x) ρ1 := rfl
@[simp] theorem v_e2 {F : D → D → R D} : e2 F fe ge ρ = (fe ρ).bind fun x ρ1 => (ge ρ1).bind fun y ρ2 => up (F x y) ρ2 := rfl
@[simp] theorem v_bNil : bNil ρ = .ok [] ρ := rfl
@[simp] theorem v_bCons {fa : List Sl → RA} : bCons fe fa ρ = (fe ρ).bindA fun x ρ1 => (fa ρ1).bind fun xs ρ2 => .ok (x :: xs) ρ2 := rfl
@[simp] theorem v_eA {F : List D → R D} {ga : List Sl → RA} : eA F ga ρ = (ga ρ).bindE fun ds ρ1 => up (F ds) ρ1 := rfl
@[simp] theorem v_vNil : vNil ρ = .ok [] ρ := rfl
@[simp] theorem v_liftB : liftB t ρ = upB (t ρ) ρ := rfl
@[simp] theorem v_q1 {F : D → R Bool} : q1 F fe ρ = (fe ρ).bindB fun d ρ1 => upB (F d) ρ1 := rfl
@[simp] theorem v_gVar : gVar i d ρ = (if i < ρ.length then some (ρ.set i (.val d)) else none) := rfl
@[simp] theorem v_gTupD {F : List D → List Sl → Option (List Sl)} {ds : List D} : gTupD F (.tup ds) ρ = F ds ρ := rfl
@[simp] theorem v_gsNil : gsNil [] ρ = some ρ := rfl
@[simp] theorem v_gsCons {F : D → List Sl → Option (List Sl)} {G : List D → List Sl → Option (List Sl)} {ds : List D} : gsCons F G (d :: ds) ρ = (F d ρ).bind fun ρ1 => G ds ρ1 := rfl
@[simp] theorem v_sNext : sNext ρ = .ok .nx ρ := rfl
@[simp] theorem v_sNever : sNever ρ = .st := rfl
@[simp] theorem v_sRetN : sRetN ρ = .ok (.rt .non) ρ := rfl
@[simp] theorem v_sRet : sRet f ρ = (f ρ).seq ρ fun d => .ok (.rt d) ρ := rfl
@[simp] theorem v_sRetE : sRetE fe ρ = (fe ρ).seq fun d ρ1 => .ok (.rt d) ρ1 := rfl
@[simp] theorem v_sExpr : sExpr f ρ = (f ρ).seq ρ fun _ => .ok .nx ρ := rfl
@[simp] theorem v_sExprE : sExprE fe ρ = (fe ρ).seq fun _ ρ1 => .ok .nx ρ1 := rfl
@[simp] theorem v_sIf {m m' : List Sl → RS} : sIf t m m' ρ = (t ρ).seqB ρ fun b => if b then m ρ else m' ρ := rfl
theorem v_sSeq {m m' : List Sl → RS} {ρ1 : List Sl} (e : m ρ = .ok .nx ρ1) : sSeq m m' ρ = m' ρ1 := by unfold sSeq; rw [e]; rfl
theorem v_sSeqRt {m m' : List Sl → RS} {ρ1 : List Sl} (e : m ρ = .ok (.rt d) ρ1) : sSeq m m' ρ = .ok (.rt d) ρ1 := by unfold sSeq; rw [e]; rfl
theorem v_sAsg {tf : D → List Sl → Option (List Sl)} (e : f ρ = .ok d) (e2 : tf d ρ = some ρ') : sAsg tf f ρ = .ok .nx ρ' := by unfold sAsg; rw [e, R.seq_ok, e2]
/-! ### operators -/
@[simp] theorem o_add {a b : Int} : addD (.int a) (.int b) = .ok (.int (a + b)) := rfl
@[simp] theorem o_sub {a b : Int} : subD (.int a) (.int b) = .ok (.int (a - b)) := rfl
@[simp] theorem o_lt {a b : Int} : ltD (.int a) (.int b) = .ok (.bl (decide (a < b))) := rfl
@[simp] theorem o_le {a b : Int} : leD (.int a) (.int b) = .ok (.bl (decide (a ≤ b))) := rfl
@[simp] theorem o_gt {a b : Int} : gtD (.int a) (.int b) = .ok (.bl (decide (b < a))) := rfl
@[simp] theorem o_ge {a b : Int} : geD (.int a) (.int b) = .ok (.bl (decide (b ≤ a))) := rfl
@[simp] theorem o_int {a : Int} : DL.intD (.int a) = .ok (.int a) := rfl
@[simp] theorem o_abs {a : Int} : absD (.int a) = .ok (.int (if a < 0 then -a else a)) := rfl
@[simp] theorem o_lenL {xs : List D} : lenD (.lst xs) = .ok (.int xs.length) := rfl
@[simp] theorem o_lenT {xs : List D} : lenD (.tup xs) = .ok (.int xs.length) := rfl
@[simp] theorem o_lenS {xs : List Int} : lenD (.scr xs) = .ok (.int xs.length) := rfl
theorem o_mul {a b : Int} (h : iMul a b = true) : mulD (.int a) (.int b) = .ok (.int (a * b)) := by
  show (if iMul a b then R.ok (D.int (a * b)) else .st) = _
  rw [if_pos h]
theorem iMul_l {a b : Int} (h1 : -(2 ^ 64) < a) (h2 : a < 2 ^ 64) : iMul a b = true := by simp [iMul]; omega
theorem iMul_r {a b : Int} (h1 : -(2 ^ 64) < b) (h2 : b < 2 ^ 64) : iMul a b = true := by simp [iMul]; omega
theorem o_mod {a b : Int} (h : 0 < b) : modD (.int a) (.int b) = .ok (.int (a % b)) := by
  show (if 0 < b then R.ok (D.int (a % b)) else .st) = _
  rw [if_pos h]
theorem o_fdiv {a b : Int} (h : 0 < b) (h2 : b < 1073741824) : fdivD (.int a) (.int b) = .ok (.int (a / b)) := by
  show (if 0 < b ∧ b < 1073741824 then R.ok (D.int (a / b)) else .st) = _
  rw [if_pos ⟨h, h2⟩]
theorem o_dm {a b : Int} (h : 0 < b) (h2 : b < 1073741824) : dmD (.int a) (.int b) = .ok (.tup [.int (a / b), .int (a % b)]) := by
  show (if 0 < b ∧ b < 1073741824 then R.ok (D.tup [.int (a / b), .int (a % b)]) else .st) = _
  rw [if_pos ⟨h, h2⟩]
theorem o_ixL {xs : List D} {k : Nat} {d : D} (h : xs[k]? = some d) : ixD (.lst xs) (.int k) = .ok d := by
  have hk : k < xs.length := (List.getElem?_eq_some_iff.mp h).1
  show (match atI xs (k : Int) with | some d => R.ok d | none => .st) = _
  have : atI xs (k : Int) = some d := by
    unfold L2.atI ixN
    rw [if_pos (by omega), if_pos (by omega)]
    simpa using h
  rw [this]
theorem o_ixT {xs : List D} {k : Nat} {d : D} (h : xs[k]? = some d) : ixD (.tup xs) (.int k) = .ok d := by
  have hk : k < xs.length := (List.getElem?_eq_some_iff.mp h).1
  show (match atI xs (k : Int) with | some d => R.ok d | none => .st) = _
  have : atI xs (k : Int) = some d := by
    unfold L2.atI ixN
    rw [if_pos (by omega), if_pos (by omega)]
    simpa using h
  rw [this]
end
/-! ### _law_drop -/
/-- the phial -/
def ph (a b c : Int) : Sl := .own 1 (.lst [.int a, .int b, .int c])
theorem ixI {a b c : Int} : ixD (.lst [.int a, .int b, .int c]) (.int 0) = .ok (.int a) ∧ ixD (.lst [.int a, .int b, .int c]) (.int 1) = .ok (.int b) ∧ ixD (.lst [.int a, .int b, .int c]) (.int 2) = .ok (.int c) :=
  ⟨o_ixL (k := 0) rfl, o_ixL (k := 1) rfl, o_ixL (k := 2) rfl⟩
theorem drop_ok (a b c top : Int) (h0 : 0 ≤ a) (ht : 0 < top) (ht2 : top < 1073741824) : ∃ r a' b' c' : Int, F__law_drop [ph a b c, .val (.int top)] = .ok (.rt (.int r)) [ph a' b' c', .val (.int top)] ∧ 0 ≤ r ∧ r < top ∧ 0 ≤ a' := by
  obtain ⟨x0, x1, x2⟩ := @ixI a b c
  by_cases h : 0 < a
  · refine ⟨a % top, a / top, b, c, ?_, Int.emod_nonneg _ (by omega), Int.emod_lt_of_pos _ ht, Int.ediv_nonneg h0 (by omega)⟩
    unfold F__law_drop runF m__law_drop ph
    rw [v_sSeqRt (d := .int (a % top)) (ρ1 := [ph (a / top) b c, .val (.int top), .un, .val (.int (a % top))])]
    · rfl
    · simp [x0, h]
      rw [v_sSeq (ρ1 := [ph (a / top) b c, .val (.int top), .un, .val (.int (a % top))])]
      · simp [ph]
      · refine v_sAsg (d := .tup [.int (a / top), .int (a % top)]) ?_ ?_
        · simp [x0, o_dm ht ht2]
        · rfl
  · let c1 := c + 1
    let base := (b + 57037 * c1) % 2147482943
    let b1 := (base * (base % 17011 + 63019) + 59 * c1 + 19) % 2147482943
    refine ⟨b1 / 179 % top, a, b1, c1, ?_, Int.emod_nonneg _ (by omega), Int.emod_lt_of_pos _ ht, h0⟩
    have m1 : iMul 57037 c1 = true := iMul_l (by omega) (by omega)
    have m2 : iMul base (base % 17011 + 63019) = true := iMul_r (by omega) (by omega)
    have m3 : iMul 59 c1 = true := iMul_l (by omega) (by omega)
    obtain ⟨y0, y1, y2⟩ := @ixI a b c1
    obtain ⟨z0, z1, z2⟩ := @ixI a b1 c1
    unfold F__law_drop runF m__law_drop ph
    rw [v_sSeq (ρ1 := [ph a b c, .val (.int top), .un, .un]), v_sSeq (ρ1 := [ph a b c1, .val (.int top), .un, .un]), v_sSeq (ρ1 := [ph a b c1, .val (.int top), .val (.int base), .un]), v_sSeq (ρ1 := [ph a b1 c1, .val (.int top), .val (.int base), .un])]
    · simp [ph, z1, o_fdiv, o_mod ht]
      rfl
    · refine v_sAsg (d := .int b1) ?_ rfl
      simp [ph, y2, o_mul m2, o_mul m3, o_mod]
      rfl
    · refine v_sAsg (d := .int base) ?_ rfl
      simp [ph, y1, y2, o_mul m1, o_mod]
      rfl
    · refine v_sAsg (d := .int c1) ?_ rfl
      simp [ph, x2]
      rfl
    · simp [ph, x0, h]
end MA

set_option Elab.async false
set_option linter.all false
set_option maxRecDepth 100000
set_option maxHeartbeats 2000000
/-! The mathematics, second part: loops; what is drawn. -/
namespace MA
open PySem PySem.Spec PyProof.Rows L2 He DL DM
/-! ### loops -/
theorem forGo_inv {tf : D → List Sl → Option (List Sl)} {body : List Sl → RS} (P : Nat → List Sl → Prop) : ∀ (items : List D) (k : Nat) (ρ : List Sl), P k ρ →
    (∀ (j : Nat) (d : D) (ρ : List Sl), items[j]? = some d → P (k + j) ρ → ∃ ρ1 ρ2, tf d ρ = some ρ1 ∧ (body ρ1 = .ok .nx ρ2 ∨ body ρ1 = .ok .ct ρ2) ∧ P (k + j + 1) ρ2) →
    ∃ ρ', forGo tf body items ρ = .ok .nx ρ' ∧ P (k + items.length) ρ'
  | [], k, ρ, h, _ => ⟨ρ, rfl, by simpa using h⟩
  | d :: items, k, ρ, h, st => by
    obtain ⟨ρ1, ρ2, e1, e2, h2⟩ := st 0 d ρ rfl (by simpa using h)
    obtain ⟨ρ', e3, h3⟩ := forGo_inv P items (k + 1) ρ2 (by simpa using h2) fun j d' ρ hj hP => by
      have := st (j + 1) d' ρ (by simpa using hj) (by rw [show k + (j + 1) = k + 1 + j by omega]; exact hP)
      rw [show k + (j + 1) + 1 = k + 1 + j + 1 by omega] at this
      exact this
    refine ⟨ρ', ?_, by rw [List.length_cons, show k + (items.length + 1) = k + 1 + items.length by omega]; exact h3⟩
    unfold forGo
    rw [e1]
    dsimp only
    rcases e2 with e2 | e2 <;> rw [e2] <;> exact e3
/-! ### calls that are lent the phial -/
theorem callO_ok {F : List Sl → RS} {i t : Nat} {o o' : Ow} {ds : List D} {d : D} {ρ rest : List Sl} (h : ρ[i]? = some (.own t o)) (e : F (.own 1 o :: ds.map .val) = .ok (.rt d) (.own 1 o' :: rest)) : callO F i ds ρ = .ok d (ρ.set i (.own t o')) := by
  unfold callO
  rw [h]
  dsimp only
  rw [e]
  rfl
theorem eCallO_ok {F : List Sl → RS} {i t t' : Nat} {o o' o0 : Ow} {ds : List D} {d : D} {ρ ρ1 rest : List Sl} {g : List Sl → RA} (h0 : ρ[i]? = some (.own t' o0)) (hg : g ρ = .ok ds ρ1) (h : ρ1[i]? = some (.own t o)) (e : F (.own 1 o :: ds.map .val) = .ok (.rt d) (.own 1 o' :: rest)) :
    eCallO F i g ρ = .ok d (ρ1.set i (.own t o')) := by
  unfold eCallO
  rw [h0]
  dsimp only
  rw [hg]
  exact callO_ok h e
def PhOk (o : Ow) : Prop := ∃ a b c : Int, o = .lst [.int a, .int b, .int c] ∧ 0 ≤ a
theorem drop_at {o : Ow} (h : PhOk o) {top : Int} (ht : 0 < top) (ht2 : top < 1073741824) : ∃ (r : Nat) (o' : Ow), F__law_drop (.own 1 o :: [D.int top].map .val) = .ok (.rt (.int r)) (.own 1 o' :: [.val (.int top)]) ∧ (r : Int) < top ∧ PhOk o' := by
  obtain ⟨a, b, c, rfl, h0⟩ := h
  obtain ⟨r, a', b', c', e, r0, r1, h1⟩ := drop_ok a b c top h0 ht ht2
  refine ⟨r.toNat, .lst [.int a', .int b', .int c'], ?_, by omega, a', b', c', rfl, h1⟩
  rw [Int.toNat_of_nonneg r0]
  exact e
/-- a drop, the phial at slot i -/
theorem dropE {o : Ow} (h : PhOk o) {i t : Nat} {ρ : List Sl} {g : List Sl → RA} {top : Int} (hi : ρ[i]? = some (.own t o)) (hg : g ρ = .ok [.int top] ρ) (ht : 0 < top) (ht2 : top < 1073741824) :
    ∃ (r : Nat) (o' : Ow), eCallO F__law_drop i g ρ = .ok (.int r) (ρ.set i (.own t o')) ∧ (r : Int) < top ∧ PhOk o' := by
  obtain ⟨r, o', e, hr, h'⟩ := drop_at h ht ht2
  exact ⟨r, o', eCallO_ok hi hg hi e, hr, h'⟩
theorem from_at {o : Ow} (h : PhOk o) {xs : List D} (hx : xs ≠ []) (hl : xs.length < 1073741824) : ∃ (r : Nat) (d : D) (o' : Ow), F__law_from (.own 1 o :: [D.tup xs].map .val) = .ok (.rt d) (.own 1 o' :: [.val (.tup xs)]) ∧ xs[r]? = some d ∧ PhOk o' := by
  have hp : 0 < xs.length := List.length_pos_iff.mpr hx
  obtain ⟨r, o', e, hr, h'⟩ := dropE h (i := 0) (t := 1) (ρ := [.own 1 o, .val (.tup xs)]) (g := bCons (liftE (p1 lenD (pVar 1))) bNil) (top := xs.length) rfl (by simp) (by omega) (by omega)
  have hr' : r < xs.length := by omega
  refine ⟨r, xs[r], o', ?_, List.getElem?_eq_getElem hr', h'⟩
  unfold F__law_from runF m__law_from
  simp [e, o_ixT (List.getElem?_eq_getElem hr')]
  rfl
theorem map_erase {α β : Type} (f : α → β) : ∀ (l : List α) (i : Nat), (l.map f).eraseIdx i = (l.eraseIdx i).map f
  | [], _ => rfl
  | _ :: _, 0 => rfl
  | a :: l, i + 1 => by simp [map_erase f l i]
theorem erase_perm {α : Type} : ∀ (l : List α) (i : Nat) (h : i < l.length), (l[i] :: l.eraseIdx i).Perm l
  | a :: l, 0, _ => List.Perm.refl _
  | a :: l, i + 1, h => by
    have := erase_perm l i (by simpa using h)
    have hi : i < l.length := by simpa using h
    exact (List.Perm.swap a (l[i]'hi) (l.eraseIdx i)).trans (this.cons a)
theorem own_ok {i : Nat} {ga : List Sl → R (List D)} {ρ : List Sl} {ds : List D} (h : ga ρ = .ok ds) (hz : ds.length ≤ sizeLine) (hi : i < ρ.length) : sOwn i (pA mkL ga) ρ = .ok .nx (ρ.set i (.own 0 (.lst ds))) := by
  unfold sOwn pA
  rw [h, R.bind_ok]
  unfold mkL fits
  rw [if_pos (decide_eq_true hz), R.seq_ok]
  simp only [if_pos hi]
theorem two62 {r : Nat} (h : r < 1073741824) : (0 : Int) ≤ (r : Int) ∧ (r : Int) < 2 ^ 62 := by
  refine ⟨Int.natCast_nonneg _, ?_⟩
  have e : (2 : Int) ^ 62 = 4611686018427387904 := by simp
  rw [e]
  omega
theorem ePop_ok {i r : Nat} {fe : List Sl → RE} {ρ ρ1 : List Sl} {t t0 : Nat} {ds0 ds : List D} {x : D} (h0 : ρ[i]? = some (.own t0 (.lst ds0))) (hf : fe ρ = .ok (.int r) ρ1) (h1 : ρ1[i]? = some (.own t (.lst ds))) (hr : r < 1073741824) (hx : ds[r]? = some x) :
    ePop i fe ρ = .ok x (ρ1.set i (.own t (.lst (ds.eraseIdx r)))) := by
  unfold ePop
  rw [h0]
  dsimp only
  rw [hf, RE.bind_ok, h1]
  dsimp only
  rw [if_pos (two62 hr), Int.toNat_natCast, hx]
theorem eApp_ok {i : Nat} {fe : List Sl → RE} {ρ ρ1 : List Sl} {t t0 : Nat} {ds0 ds : List D} {x : D} (h0 : ρ[i]? = some (.own t0 (.lst ds0))) (hf : fe ρ = .ok x ρ1) (h1 : ρ1[i]? = some (.own t (.lst ds))) (hz : ds.length < sizeLine) :
    eApp i fe ρ = .ok .non (ρ1.set i (.own t (.lst (ds ++ [x])))) := by
  unfold eApp
  rw [h0]
  dsimp only
  rw [hf, RE.bind_ok, h1]
  dsimp only
  rw [if_pos hz]
/-! ### the drawn names -/
def pool14 : List Str := ["a", "bo", "c3", "dd", "ell", "f0f0f0f0", "g", "hut", "i9", "jo", "k", "lima", "m5", "no"]
theorem pool14_nd : pool14.Nodup := by decide +kernel
theorem pool14_len : pool14.length = 14 := rfl
theorem rangeD_get {n : Int} {j : Nat} {d : D} (h : (rangeD 0 n)[j]? = some d) : d = .int (j : Nat) ∧ (j : Int) < n := by
  unfold rangeD at h
  rw [List.getElem?_map] at h
  cases q : (List.range (n - 0).toNat)[j]? with
  | none => rw [q] at h; cases h
  | some k =>
    rw [q] at h
    obtain ⟨hk, e⟩ := List.getElem?_eq_some_iff.mp q
    simp at hk e
    subst e
    cases h
    exact ⟨by simp, by omega⟩
theorem rangeD_len (n : Int) : (rangeD 0 n).length = n.toNat := by simp [rangeD]
theorem erase_perm' {α : Type} {l : List α} {i : Nat} {x : α} (h : l[i]? = some x) : (x :: l.eraseIdx i).Perm l := by
  obtain ⟨hi, rfl⟩ := List.getElem?_eq_some_iff.mp h
  exact erase_perm l i hi
/-- one name drawn -/
theorem tags_step {o : Ow} (ho : PhOk o) {a b c : D} {pool found : List Str} (hp : 0 < pool.length) (hp2 : pool.length ≤ 14) (hf : found.length ≤ 14) : ∃ (o2 : Ow) (r : Nat) (x : Str), pool[r]? = some x ∧ PhOk o2 ∧
    sExprE (eApp 4 (ePop 3 (eCallO F__law_drop 0 (bCons (liftE (p1 lenD (pVarR 3))) bNil)))) [.own 1 o, .val a, .val b, .own 0 (.lst (pool.map .str)), .own 0 (.lst (found.map .str)), .val c]
      = .ok .nx [.own 1 o2, .val a, .val b, .own 0 (.lst ((pool.eraseIdx r).map .str)), .own 0 (.lst ((found ++ [x]).map .str)), .val c] := by
  obtain ⟨r, o2, e2, hr, ho2⟩ := dropE ho (i := 0) (t := 1) (ρ := [.own 1 o, .val a, .val b, .own 0 (.lst (pool.map .str)), .own 0 (.lst (found.map .str)), .val c]) (g := bCons (liftE (p1 lenD (pVarR 3))) bNil) (top := pool.length) rfl (by simp) (by omega) (by omega)
  have hr' : r < pool.length := by omega
  obtain ⟨x, hx⟩ : ∃ x, pool[r]? = some x := ⟨_, List.getElem?_eq_getElem hr'⟩
  refine ⟨o2, r, x, hx, ho2, ?_⟩
  rw [List.set_cons_zero] at e2
  have ep := ePop_ok (i := 3) (x := .str x) (t0 := 0) (ds0 := pool.map .str) (t := 0) (ds := pool.map .str) rfl e2 rfl (by omega) (by rw [List.getElem?_map, hx]; rfl)
  rw [map_erase, List.set_cons_succ, List.set_cons_succ, List.set_cons_succ, List.set_cons_zero] at ep
  have ea := eApp_ok (i := 4) (t0 := 0) (ds0 := found.map .str) (t := 0) (ds := found.map .str) rfl ep rfl (by rw [List.length_map, sizeLine_eq]; omega)
  unfold sExprE
  rw [ea, RE.seq_ok, List.map_append]
  rfl
theorem tags_loop {o1 : Ow} (ho1 : PhOk o1) {a b : D} {p0 : List Str} (h14 : p0.length = 14) (n : Nat) (hn : n ≤ 14) : ∃ (o2 : Ow) (pool found : List Str) (x : Sl),
    forGo (gVar 5) (sExprE (eApp 4 (ePop 3 (eCallO F__law_drop 0 (bCons (liftE (p1 lenD (pVarR 3))) bNil))))) (rangeD 0 n) [.own 1 o1, .val a, .val b, .own 0 (.lst (p0.map .str)), .own 0 (.lst []), .un]
      = .ok .nx [.own 1 o2, .val a, .val b, .own 0 (.lst (pool.map .str)), .own 0 (.lst (found.map .str)), x] ∧ PhOk o2 ∧ (found ++ pool).Perm p0 ∧ found.length = n := by
  obtain ⟨ρ', el, o2, pool, found, x, rfl, ho2, pm, hf⟩ := forGo_inv (tf := gVar 5) (body := sExprE (eApp 4 (ePop 3 (eCallO F__law_drop 0 (bCons (liftE (p1 lenD (pVarR 3))) bNil)))))
    (fun k ρ => ∃ (o : Ow) (pool found : List Str) (x : Sl), ρ = [.own 1 o, .val a, .val b, .own 0 (.lst (pool.map .str)), .own 0 (.lst (found.map .str)), x] ∧ PhOk o ∧ (found ++ pool).Perm p0 ∧ found.length = k) (rangeD 0 n) 0
    [.own 1 o1, .val a, .val b, .own 0 (.lst (p0.map .str)), .own 0 (.lst []), .un] ⟨o1, p0, [], .un, rfl, ho1, List.Perm.refl _, rfl⟩ (by
      rintro j d ρ hd ⟨o, pool, found, x, rfl, ho, pm, hf⟩
      obtain ⟨rfl, hj⟩ := rangeD_get hd
      have hlen : found.length + pool.length = 14 := by rw [← h14, ← pm.length_eq, List.length_append]
      obtain ⟨o2, r2, x2, hx2, ho2, e2⟩ := tags_step ho (a := a) (b := b) (c := .int j) (pool := pool) (found := found) (by omega) (by omega) (by omega)
      refine ⟨[.own 1 o, .val a, .val b, .own 0 (.lst (pool.map .str)), .own 0 (.lst (found.map .str)), .val (.int j)], _, rfl, .inl e2, o2, pool.eraseIdx r2, found ++ [x2], _, rfl, ho2, ?_, by rw [List.length_append]; simp; omega⟩
      rw [List.append_assoc]
      exact List.Perm.trans (List.Perm.append_left found (erase_perm' hx2)) pm)
  exact ⟨o2, pool, found, x, el, ho2, pm, by rw [rangeD_len] at hf; omega⟩
theorem tags_count {o : Ow} (h : PhOk o) {lo hi : Nat} (h2 : lo ≤ hi) (h3 : hi ≤ 14) {s3 s4 s5 : Sl} : ∃ (r : Nat) (o1 : Ow), e2 addD (liftE (pVar 1)) (eCallO F__law_drop 0 (bCons (liftE (p2 addD (p2 subD (pVar 2) (pVar 1)) (pC (.int 1)))) bNil)) [.own 1 o, .val (.int lo), .val (.int hi), s3, s4, s5]
    = .ok (.int ((lo + r : Nat) : Int)) [.own 1 o1, .val (.int lo), .val (.int hi), s3, s4, s5] ∧ lo + r ≤ hi ∧ PhOk o1 := by
  have ht : (0 : Int) < (hi : Int) - lo + 1 := by omega
  have ht2 : (hi : Int) - lo + 1 < 1073741824 := by omega
  obtain ⟨r, o1, e, hr, ho1⟩ := dropE h (i := 0) (t := 1) (ρ := [.own 1 o, .val (.int lo), .val (.int hi), s3, s4, s5]) (g := bCons (liftE (p2 addD (p2 subD (pVar 2) (pVar 1)) (pC (.int 1)))) bNil) rfl rfl ht ht2
  refine ⟨r, o1, ?_, by omega, ho1⟩
  show ((liftE (pVar 1) [.own 1 o, .val (.int lo), .val (.int hi), s3, s4, s5]).bind fun x ρ1 => (eCallO F__law_drop 0 (bCons (liftE (p2 addD (p2 subD (pVar 2) (pVar 1)) (pC (.int 1)))) bNil) ρ1).bind fun y ρ2 => up (addD x y) ρ2) = _
  rw [show liftE (pVar 1) [.own 1 o, .val (.int lo), .val (.int hi), s3, s4, s5] = .ok (.int lo) [.own 1 o, .val (.int lo), .val (.int hi), s3, s4, s5] from rfl, RE.bind_ok, e, RE.bind_ok, o_add, up_ok, List.set_cons_zero, Int.natCast_add]
theorem ok62_nat {n : Nat} (h : n < 1073741824) : ok62 (n : Int) = true := by
  unfold ok62
  rw [Bool.and_eq_true, decide_eq_true_eq, decide_eq_true_eq]
  have e : (2 : Int) ^ 62 = 4611686018427387904 := by simp
  rw [e]
  exact ⟨by omega, by omega⟩
theorem if_ok {α : Type} {b : Bool} (h : b = true) (x y : α) : (if b then x else y) = x := by subst h; rfl
theorem jRange1_ok {fe : List Sl → RE} {ρ ρ1 : List Sl} {n : Nat} (e : fe ρ = .ok (.int (n : Int)) ρ1) (h : n < 1073741824) : jRange1 fe ρ = .ok (rangeD 0 n) ρ1 := by
  have h1 := if_ok (ok62_nat h) (RI.ok (rangeD 0 n) ρ1) .st
  unfold jRange1
  rw [e, RE.bindI_ok]
  generalize hb : ok62 (n : Int) = b at h1
  dsimp only
  rw [hb]
  exact h1
theorem sForE_ok {fe : List Sl → RE} {tf : D → List Sl → Option (List Sl)} {body : List Sl → RS} {ρ ρ1 : List Sl} {n : Nat} (e : fe ρ = .ok (.int (n : Int)) ρ1) (h : n < 1073741824) : sForE (jRange1 fe) tf body ρ = forGo tf body (rangeD 0 n) ρ1 := by
  unfold sForE
  rw [jRange1_ok e h]
theorem tags_rest {o : Ow} (h : PhOk o) {lo hi : Nat} (h2 : lo ≤ hi) (h3 : hi ≤ 14) {p0 : List Str} (h14 : p0.length = 14) : ∃ (o2 : Ow) (pool ts : List Str) (x : Sl),
    sSeq (sForE (jRange1 (e2 addD (liftE (pVar 1)) (eCallO F__law_drop 0 (bCons (liftE (p2 addD (p2 subD (pVar 2) (pVar 1)) (pC (.int 1)))) bNil)))) (gVar 5) (sExprE (eApp 4 (ePop 3 (eCallO F__law_drop 0 (bCons (liftE (p1 lenD (pVarR 3))) bNil)))))) (sRet (p1 tupD (pVarQ 4)))
      [.own 1 o, .val (.int lo), .val (.int hi), .own 0 (.lst (p0.map .str)), .own 0 (.lst []), .un]
      = .ok (.rt (.tup (ts.map .str))) [.own 1 o2, .val (.int lo), .val (.int hi), .own 0 (.lst (pool.map .str)), .own 0 (.lst (ts.map .str)), x] ∧ PhOk o2 ∧ (ts ++ pool).Perm p0 ∧ lo ≤ ts.length ∧ ts.length ≤ hi := by
  obtain ⟨r, o1, e4, hr, ho1⟩ := tags_count h h2 h3 (s3 := .own 0 (.lst (p0.map .str))) (s4 := .own 0 (.lst [])) (s5 := .un)
  obtain ⟨o2, pool, ts, x, el, ho2, pm, hl⟩ := tags_loop ho1 (a := .int lo) (b := .int hi) h14 (lo + r) (by omega)
  refine ⟨o2, pool, ts, x, ?_, ho2, pm, by omega, by omega⟩
  refine (v_sSeq ((sForE_ok e4 (by omega)).trans el)).trans ?_
  rfl
theorem own_ok' {i : Nat} {ga : List Sl → R (List D)} {ρ ρ' : List Sl} {ds : List D} (h : ga ρ = .ok ds) (hz : ds.length ≤ sizeLine) (hi : i < ρ.length) (e : ρ.set i (.own 0 (.lst ds)) = ρ') : sOwn i (pA mkL ga) ρ = .ok .nx ρ' := e ▸ own_ok h hz hi
theorem tags_at {o : Ow} (h : PhOk o) {lo hi : Nat} (h1 : 1 ≤ lo) (h2 : lo ≤ hi) (h3 : hi ≤ 14) : ∃ (ts : List Str) (o' : Ow), F__law_tags (.own 1 o :: [D.int lo, D.int hi].map .val) = .ok (.rt (.tup (ts.map .str))) (.own 1 o' :: [.val (.int lo), .val (.int hi)]) ∧
    ts.Nodup ∧ (∀ x ∈ ts, x ∈ pool14) ∧ lo ≤ ts.length ∧ ts.length ≤ hi ∧ PhOk o' := by
  obtain ⟨o2, pool, ts, x, e, ho2, pm, l1, l2⟩ := tags_rest h h2 h3 pool14_len
  refine ⟨ts, o2, ?_, (List.nodup_append.mp (pm.nodup_iff.mpr pool14_nd)).1, fun x hx => pm.subset (List.mem_append_left _ hx), l1, l2, ho2⟩
  have m : m__law_tags [.own 1 o, .val (.int lo), .val (.int hi), .un, .un, .un] = .ok (.rt (.tup (ts.map .str))) [.own 1 o2, .val (.int lo), .val (.int hi), .own 0 (.lst (pool.map .str)), .own 0 (.lst (ts.map .str)), x] := by
    unfold m__law_tags
    refine (v_sSeq (own_ok' (ds := pool14.map .str) rfl (by rw [List.length_map, pool14_len, sizeLine_eq]; omega) (by simp) rfl)).trans ?_
    exact (v_sSeq (own_ok' (ds := []) rfl (Nat.zero_le _) (by simp) rfl)).trans e
  show runF 3 m__law_tags [.own 1 o, .val (.int lo), .val (.int hi)] = _
  unfold runF
  rw [show [Sl.own 1 o, .val (.int lo), .val (.int hi)] ++ List.replicate 3 .un = [.own 1 o, .val (.int lo), .val (.int hi), .un, .un, .un] from rfl, m]
  rfl
end MA

set_option Elab.async false
set_option linter.all false
set_option maxRecDepth 100000
set_option maxHeartbeats 2000000
/-! The mathematics, third part: equal data. -/
namespace MA
open PySem PySem.Spec PyProof.Rows L2 He DL DM
/-- plain data of a depth -/
structure Sd (k : Nat) (d : D) : Prop where
  p : d.pure = true
  c : d.py.canLay0 = true
  d : d.py.depth ≤ k
theorem Sd.mono {j k : Nat} {d : D} (h : Sd j d) (hk : j ≤ k) : Sd k d := ⟨h.p, h.c, Nat.le_trans h.d hk⟩
theorem Sd.sh {k : Nat} {d : D} (h : Sd k d) (hk : k ≤ 64) : d.sh = true := by
  unfold D.sh SeqAt.shaped
  rw [h.p, h.c, decide_eq_true (Nat.le_trans h.d hk)]
  rfl
theorem sd_non : Sd 0 .non := ⟨rfl, rfl, Nat.le_refl _⟩
theorem sd_bl (b : Bool) : Sd 0 (.bl b) := ⟨rfl, rfl, Nat.le_refl _⟩
theorem sd_int (i : Int) : Sd 0 (.int i) := ⟨rfl, rfl, Nat.le_refl _⟩
theorem sd_str {s : Str} (h : PyData.canLay0 (.str s) = true) : Sd 0 (.str s) := ⟨rfl, h, Nat.le_refl _⟩
theorem sd_all {k : Nat} : ∀ {xs : List D}, (∀ x ∈ xs, Sd k x) → pureA xs = true ∧ PyData.canLayAll0 (pyA xs) = true ∧ PyData.depthAll (pyA xs) ≤ k
  | [], _ => ⟨rfl, rfl, Nat.zero_le _⟩
  | x :: xs, h => by
    obtain ⟨a, b, c⟩ := sd_all fun y hy => h y (List.mem_cons_of_mem _ hy)
    have hx := h x List.mem_cons_self
    refine ⟨by simp [pureA, hx.p, a], by simp [pyA, PyData.canLayAll0, hx.c, b], ?_⟩
    simp only [pyA, PyData.depthAll]
    exact Nat.max_le.mpr ⟨hx.d, c⟩
theorem sd_tup {k : Nat} {xs : List D} (h : ∀ x ∈ xs, Sd k x) : Sd (k + 1) (.tup xs) := by
  obtain ⟨a, b, c⟩ := sd_all h
  exact ⟨by simpa [D.pure] using a, by simpa [D.py, PyData.canLay0] using b, by simpa [D.py, PyData.depth] using c⟩
theorem sd_lst {k : Nat} {xs : List D} (h : ∀ x ∈ xs, Sd k x) : Sd (k + 1) (.lst xs) := by
  obtain ⟨a, b, c⟩ := sd_all h
  exact ⟨by simpa [D.pure] using a, by simpa [D.py, PyData.canLay0] using b, by simpa [D.py, PyData.depth] using c⟩
theorem o_eq {j k : Nat} {x y : D} (hx : Sd j x) (hy : Sd k y) (hj : j ≤ 64) (hk : k ≤ 64) : eqD x y = .ok (.bl (PyData.eqv x.py y.py)) := by
  unfold eqD
  rw [hx.sh hj, hy.sh hk]
  rfl
theorem o_ne {j k : Nat} {x y : D} (hx : Sd j x) (hy : Sd k y) (hj : j ≤ 64) (hk : k ≤ 64) : neD x y = .ok (.bl (!PyData.eqv x.py y.py)) := by
  unfold neD
  rw [hx.sh hj, hy.sh hk]
  rfl
/-- a pair of texts -/
def pr (p : Str × Str) : D := .tup [.str p.1, .str p.2]
theorem eqv_str (x y : Str) : PyData.eqv (D.str x).py (D.str y).py = (x == y) := rfl
theorem eqv_pr (p q : Str × Str) : PyData.eqv (pr p).py (pr q).py = (p.1 == q.1 && p.2 == q.2) := by
  show PyData.eqv (.tuple [.str p.1, .str p.2]) (.tuple [.str q.1, .str q.2]) = _
  simp [PyData.eqv, PyData.eqvAll]
theorem eqv_pr_iff (p q : Str × Str) : PyData.eqv (pr p).py (pr q).py = true ↔ p = q := by
  rw [eqv_pr, Bool.and_eq_true, beq_iff_eq, beq_iff_eq]
  exact ⟨fun h => Prod.ext h.1 h.2, fun h => by rw [h]; exact ⟨rfl, rfl⟩⟩
theorem any_pr (L : List (Str × Str)) (p : Str × Str) : ((L.map pr).any fun z => PyData.eqv z.py (pr p).py) = decide (p ∈ L) := by
  rw [Bool.eq_iff_iff, List.any_eq_true, decide_eq_true_eq]
  constructor
  · rintro ⟨z, hz, e⟩
    obtain ⟨q, hq, rfl⟩ := List.mem_map.mp hz
    rw [(eqv_pr_iff q p).mp e] at hq
    exact hq
  · intro h
    exact ⟨pr p, List.mem_map.mpr ⟨p, h, rfl⟩, (eqv_pr_iff p p).mpr rfl⟩
theorem any_str (ts : List Str) (x : Str) : ((ts.map D.str).any fun z => PyData.eqv z.py (D.str x).py) = decide (x ∈ ts) := by
  rw [Bool.eq_iff_iff, List.any_eq_true, decide_eq_true_eq]
  constructor
  · rintro ⟨z, hz, e⟩
    obtain ⟨q, hq, rfl⟩ := List.mem_map.mp hz
    rw [eqv_str, beq_iff_eq] at e
    rw [← e]; exact hq
  · intro h
    exact ⟨.str x, List.mem_map.mpr ⟨x, h, rfl⟩, by rw [eqv_str]; exact beq_self_eq_true x⟩
theorem o_inL {j k : Nat} {x : D} {ds : List D} (hx : Sd j x) (hy : Sd k (.lst ds)) (hj : j ≤ 64) (hk : k ≤ 64) : inD x (.lst ds) = .ok (.bl (ds.any fun z => PyData.eqv z.py x.py)) := by
  show (if x.sh && (D.lst ds).sh then R.ok (D.bl (false ^^ ds.any fun z => PyData.eqv z.py x.py)) else .st) = _
  rw [hx.sh hj, hy.sh hk, Bool.false_xor]
  rfl
theorem o_inT {j k : Nat} {x : D} {ds : List D} (hx : Sd j x) (hy : Sd k (.tup ds)) (hj : j ≤ 64) (hk : k ≤ 64) : inD x (.tup ds) = .ok (.bl (ds.any fun z => PyData.eqv z.py x.py)) := by
  show (if x.sh && (D.tup ds).sh then R.ok (D.bl (false ^^ ds.any fun z => PyData.eqv z.py x.py)) else .st) = _
  rw [hx.sh hj, hy.sh hk, Bool.false_xor]
  rfl
theorem o_ninL {j k : Nat} {x : D} {ds : List D} (hx : Sd j x) (hy : Sd k (.lst ds)) (hj : j ≤ 64) (hk : k ≤ 64) : ninD x (.lst ds) = .ok (.bl (!ds.any fun z => PyData.eqv z.py x.py)) := by
  show (if x.sh && (D.lst ds).sh then R.ok (D.bl (true ^^ ds.any fun z => PyData.eqv z.py x.py)) else .st) = _
  rw [hx.sh hj, hy.sh hk, Bool.true_xor]
  rfl
theorem o_ninT {j k : Nat} {x : D} {ds : List D} (hx : Sd j x) (hy : Sd k (.tup ds)) (hj : j ≤ 64) (hk : k ≤ 64) : ninD x (.tup ds) = .ok (.bl (!ds.any fun z => PyData.eqv z.py x.py)) := by
  show (if x.sh && (D.tup ds).sh then R.ok (D.bl (true ^^ ds.any fun z => PyData.eqv z.py x.py)) else .st) = _
  rw [hx.sh hj, hy.sh hk, Bool.true_xor]
  rfl
/-- texts that may be laid -/
def Fine (ts : List Str) : Prop := ∀ x ∈ ts, PyData.canLay0 (.str x) = true
theorem pool14_fine : Fine pool14 := by
  have : pool14.all (fun x => PyData.canLay0 (.str x)) = true := by decide +kernel
  exact fun x hx => List.all_eq_true.mp this x hx
theorem sd_strs {ts : List Str} (h : Fine ts) : ∀ x ∈ ts.map D.str, Sd 0 x := fun x hx => by
  obtain ⟨s, hs, rfl⟩ := List.mem_map.mp hx
  exact sd_str (h s hs)
theorem sd_pr {p : Str × Str} (h1 : PyData.canLay0 (.str p.1) = true) (h2 : PyData.canLay0 (.str p.2) = true) : Sd 1 (pr p) := sd_tup fun x hx => by
  simp at hx
  rcases hx with rfl | rfl
  · exact sd_str h1
  · exact sd_str h2
end MA

set_option Elab.async false
set_option linter.all false
set_option maxRecDepth 100000
set_option maxHeartbeats 2000000
/-! Mirrors are computed: the rules of one step. -/
namespace MA
open PySem PySem.Spec PyProof.Rows L2 He DL DM
section
variable {ρ ρ' : List Sl} {i j k t : Nat} {d x y : D} {f g h : List Sl → R D} {fe ge : List Sl → RE} {c c' : List Sl → R Bool} {q q' : List Sl → RB} {m m' : List Sl → RS} {tf : D → List Sl → Option (List Sl)} {fv : List Sl → RV} {ds : List D} {a : AV} {as : List AV} {is : List Nat} {s : Sl} {o : Ow}
theorem RS.then_nx : (RS.ok .nx ρ).then m = m ρ := rfl
theorem RS.then_rt : (RS.ok (.rt d) ρ).then m = .ok (.rt d) ρ := rfl
theorem RS.then_rtO : (RS.ok (.rtO o) ρ).then m = .ok (.rtO o) ρ := rfl
theorem RS.then_ct : (RS.ok .ct ρ).then m = .ok .ct ρ := rfl
theorem RS.then_bk : (RS.ok .bk ρ).then m = .ok .bk ρ := rfl
theorem v_seq : sSeq m m' ρ = (m ρ).then m' := rfl
/-- what is behind a target -/
def nxO : Option (List Sl) → RS
  | some ρ => .ok .nx ρ
  | none => .st
theorem ok_match : nxO (some ρ) = .ok .nx ρ := rfl
theorem v_asg : sAsg tf f ρ = (f ρ).seq ρ fun d => nxO (tf d ρ) := rfl
theorem v_asgE : sAsgE tf fe ρ = (fe ρ).seq fun d ρ1 => nxO (tf d ρ1) := rfl
def ownL (i : Nat) (ρ : List Sl) : D → RS
  | .lst ds => if i < ρ.length then .ok .nx (ρ.set i (.own 0 (.lst ds))) else .st
  | _ => .st
theorem v_own : sOwn i f ρ = (f ρ).seq ρ (ownL i ρ) := rfl
theorem ok_match2 (h : decide (i < ρ.length) = true) : ownL i ρ (.lst ds) = .ok .nx (ρ.set i (.own 0 (.lst ds))) := by unfold ownL; exact if_pos (of_decide_eq_true h)
/-- getters -/
def varK : Option Sl → R D
  | some (.val d) => .ok d
  | _ => .st
def varKQ : Option Sl → R D
  | some (.val d) => .ok d
  | some (.own _ (.lst ds)) => .ok (.lst ds)
  | _ => .st
def varKR : Option Sl → R D
  | some (.val d) => .ok d
  | some (.own _ (.lst ds)) => .ok (.lst ds)
  | some (.own _ (.ll dss)) => .ok (.lst (dss.map .lst))
  | _ => .st
theorem v_pVar' : pVar i ρ = varK ρ[i]? := rfl
theorem v_pVarQ' : pVarQ i ρ = varKQ ρ[i]? := rfl
theorem v_pVarR' : pVarR i ρ = varKR ρ[i]? := rfl
theorem k_v : varK (some (.val d)) = .ok d := rfl
theorem k_vq : varKQ (some (.val d)) = .ok d := rfl
theorem k_vr : varKR (some (.val d)) = .ok d := rfl
theorem k_oq : varKQ (some (.own t (.lst ds))) = .ok (.lst ds) := rfl
theorem k_or : varKR (some (.own t (.lst ds))) = .ok (.lst ds) := rfl
theorem k_or2 {dss : List (List D)} : varKR (some (.own t (.ll dss))) = .ok (.lst (dss.map .lst)) := rfl
def vValK (fv : List Sl → RV) : RE → RV
  | .ok d ρ1 => (fv ρ1).bind fun ds ρ2 => .ok (.v d :: ds) ρ2
  | .ex x ρ1 => .ex x ρ1
  | .st => .st
theorem v_vVal : vVal fe fv ρ = vValK fv (fe ρ) := rfl
theorem k_vVal : vValK fv (.ok d ρ) = (fv ρ).bind fun ds ρ2 => .ok (.v d :: ds) ρ2 := rfl
def vFrK (fv : List Sl → RV) (ρ : List Sl) : R D → RV
  | .ok (.lst ds) => (fv ρ).bind fun r ρ2 => .ok (.f ds :: r) ρ2
  | .ex x => .ex x ρ
  | _ => .st
theorem v_vFr : vFr f fv ρ = vFrK fv ρ (f ρ) := rfl
theorem k_vFr : vFrK fv ρ (.ok (.lst ds)) = (fv ρ).bind fun r ρ2 => .ok (.f ds :: r) ρ2 := rfl
def parK (is : List Nat) : RV → RS
  | .ok ds ρ1 => nxO (putAll is ds ρ1)
  | .ex x ρ1 => .ex x ρ1
  | .st => .st
theorem v_par : sPar is fv ρ = parK is (fv ρ) := rfl
theorem k_par : parK is (.ok as ρ) = nxO (putAll is as ρ) := rfl
theorem v_putNil : putAll [] [] ρ = some ρ := rfl
theorem v_putV : putAll (i :: is) (.v d :: as) ρ = if i < ρ.length then putAll is as (ρ.set i (.val d)) else none := rfl
theorem v_putF : putAll (i :: is) (.f ds :: as) ρ = if i < ρ.length then putAll is as (ρ.set i (.own 0 (.lst ds))) else none := rfl
def fldK (C : Addr) (f : Str) : Option Sl → R D
  | some (.val d) => fldD C f d
  | some (.own _ (.ins C' fs)) => fldD C f (.ins C' fs)
  | _ => .st
theorem v_pFldO {C : Addr} {f : Str} : pFldO C f i ρ = fldK C f ρ[i]? := rfl
theorem k_fldV {C : Addr} {f : Str} : fldK C f (some (.val d)) = fldD C f d := rfl
theorem k_fldO {C C' : Addr} {f : Str} {fs : List (Str × D)} : fldK C f (some (.own t (.ins C' fs))) = fldD C f (.ins C' fs) := rfl
def setK (C : Addr) (f : Str) (i : Nat) (d : D) (ρ : List Sl) : Option Sl → RS
  | some (.own t (.ins C' fs)) => if C' = C ∧ fs.length < 1000 then .ok .nx (ρ.set i (.own t (.ins C' (putD f d fs)))) else .st
  | _ => .st
theorem v_setF {C : Addr} {f : Str} : sSetF C f i fe ρ = (fe ρ).seq fun d ρ1 => setK C f i d ρ1 ρ1[i]? := rfl
theorem k_set {C C' : Addr} {f : Str} {fs : List (Str × D)} : setK C f i d ρ (some (.own t (.ins C' fs))) = if C' = C ∧ fs.length < 1000 then .ok .nx (ρ.set i (.own t (.ins C' (putD f d fs)))) else .st := rfl
def augK (F : D → D → R D) (i : Nat) (fe : List Sl → RE) (ρ : List Sl) : Option Sl → RS
  | some (.val d) => (fe ρ).seq fun y ρ1 => (up (F d y) ρ1).seq fun z ρ2 => if i < ρ2.length then .ok .nx (ρ2.set i (.val z)) else .st
  | _ => .st
theorem v_aug {F : D → D → R D} : sAug F i fe ρ = augK F i fe ρ ρ[i]? := rfl
theorem k_aug {F : D → D → R D} : augK F i fe ρ (some (.val d)) = (fe ρ).seq fun y ρ1 => (up (F d y) ρ1).seq fun z ρ2 => if i < ρ2.length then .ok .nx (ρ2.set i (.val z)) else .st := rfl
theorem v_iAdd {a b : Int} : iAdd (.int a) (.int b) = .ok (.int (a + b)) := rfl
def ownK (i : Nat) (ρ : List Sl) : R Ow → RS
  | .ok o => if i < ρ.length then .ok .nx (ρ.set i (.own 0 o)) else .st
  | .ex x => .ex x ρ
  | .st => .st
theorem v_ownG {fo : List Sl → R Ow} : sOwnG i fo ρ = ownK i ρ (fo ρ) := rfl
theorem k_own : ownK i ρ (.ok o) = if i < ρ.length then .ok .nx (ρ.set i (.own 0 o)) else .st := rfl
def retFK (ρ : List Sl) : D → RS
  | .lst ds => .ok (.rtO (.lst ds)) ρ
  | _ => .st
theorem v_sRetF : sRetF f ρ = (f ρ).seq ρ (retFK ρ) := by
  rfl
theorem k_retF : retFK ρ (.lst ds) = .ok (.rtO (.lst ds)) ρ := rfl
theorem v_sIfE : sIfE q m m' ρ = (q ρ).seq fun b ρ1 => if b then m ρ1 else m' ρ1 := rfl
theorem v_qAnd : qAnd q q' ρ = (q ρ).bind fun c ρ1 => if c then q' ρ1 else .ok false ρ1 := rfl
theorem v_qOr : qOr q q' ρ = (q ρ).bind fun c ρ1 => if c then .ok true ρ1 else q' ρ1 := rfl
theorem v_qNot : qNot q ρ = (q ρ).bind fun c ρ1 => .ok (!c) ρ1 := rfl
theorem v_eIf : eIf q fe ge ρ = (q ρ).bindE fun b ρ1 => if b then fe ρ1 else ge ρ1 := rfl
def ixK (i : Nat) (d : D) (ρ : List Sl) : Option Sl → R D → Option (List Sl)
  | some (.own t (.lst ds)), .ok (.int k) => (ixN ds.length k).map fun j => ρ.set i (.own t (.lst (ds.set j d)))
  | _, _ => none
theorem v_gIx : gIx i g d ρ = ixK i d ρ ρ[i]? (g ρ) := rfl
theorem k_ix {k : Int} : ixK i d ρ (some (.own t (.lst ds))) (.ok (.int k)) = (ixN ds.length k).map fun j => ρ.set i (.own t (.lst (ds.set j d))) := rfl
def ixK2 (i : Nat) (d : D) (ρ : List Sl) : Option Sl → R D → R D → Option (List Sl)
  | some (.own t (.ll dss)), .ok (.int k1), .ok (.int k2) => (ixN dss.length k1).bind fun j1 => (dss[j1]?).bind fun ds => (ixN ds.length k2).map fun j2 => ρ.set i (.own t (.ll (dss.set j1 (ds.set j2 d))))
  | _, _, _ => none
theorem v_gIx2 {g1 g2 : List Sl → R D} : gIx2 i g1 g2 d ρ = ixK2 i d ρ ρ[i]? (g1 ρ) (g2 ρ) := rfl
theorem k_ix2 {k1 k2 : Int} {dss : List (List D)} : ixK2 i d ρ (some (.own t (.ll dss))) (.ok (.int k1)) (.ok (.int k2)) = (ixN dss.length k1).bind fun j1 => (dss[j1]?).bind fun ds => (ixN ds.length k2).map fun j2 => ρ.set i (.own t (.ll (dss.set j1 (ds.set j2 d)))) := rfl
def ixLK : Option Sl → R D → R D → R D
  | some (.own _ (.ll dss)), .ok (.int k1), .ok (.int k2) => (match L2.atI dss k1 with | some ds => (match L2.atI ds k2 with | some d => .ok d | none => .st) | none => .st)
  | _, _, _ => .st
def oR : Option D → R D
  | some d => .ok d
  | none => .st
theorem oR_s : oR (some d) = .ok d := rfl
theorem v_pIxLL {g1 g2 : List Sl → R D} : pIxLL i g1 g2 ρ = ixLK ρ[i]? (g1 ρ) (g2 ρ) := rfl
theorem k_ixL {k1 k2 : Int} {dss : List (List D)} : ixLK (some (.own t (.ll dss))) (.ok (.int k1)) (.ok (.int k2)) = oR ((L2.atI dss k1).bind fun ds => L2.atI ds k2) := by
  show (match L2.atI dss k1 with | some ds => (match L2.atI ds k2 with | some d => R.ok d | none => .st) | none => .st) = _
  cases L2.atI dss k1 with
  | none => rfl
  | some ds => dsimp only [Option.bind_some]; cases L2.atI ds k2 <;> rfl
def appK2 (i : Nat) (d : D) (ρ1 : List Sl) : Option Sl → RE
  | some (.own t (.lst ds)) => if ds.length < sizeLine then .ok .non (ρ1.set i (.own t (.lst (ds ++ [d])))) else .st
  | _ => .st
def appK (i : Nat) (fe : List Sl → RE) (ρ : List Sl) : Option Sl → RE
  | some (.own _ (.lst _)) => (fe ρ).bind fun d ρ1 => appK2 i d ρ1 ρ1[i]?
  | _ => .st
theorem k_app2 : appK2 i d ρ (some (.own t (.lst ds))) = if ds.length < sizeLine then .ok .non (ρ.set i (.own t (.lst (ds ++ [d])))) else .st := rfl
theorem k_app : appK i fe ρ (some (.own t (.lst ds))) = (fe ρ).bind fun d ρ1 => appK2 i d ρ1 ρ1[i]? := rfl
theorem v_eApp : eApp i fe ρ = appK i fe ρ ρ[i]? := rfl
def popK3 (i t : Nat) (k : Int) (ds : List D) (ρ1 : List Sl) : Option D → RE
  | some x => .ok x (ρ1.set i (.own t (.lst (ds.eraseIdx k.toNat))))
  | none => .st
def popK2 (i : Nat) (d : D) (ρ1 : List Sl) : Option Sl → RE
  | some (.own t (.lst ds)) => (match d with | .int k => if 0 ≤ k ∧ k < 2 ^ 62 then popK3 i t k ds ρ1 ds[k.toNat]? else .st | _ => .st)
  | _ => .st
def popK (i : Nat) (fe : List Sl → RE) (ρ : List Sl) : Option Sl → RE
  | some (.own _ (.lst _)) => (fe ρ).bind fun d ρ1 => popK2 i d ρ1 ρ1[i]?
  | _ => .st
theorem k_pop3 {k : Int} : popK3 i t k ds ρ (some d) = .ok d (ρ.set i (.own t (.lst (ds.eraseIdx k.toNat)))) := rfl
theorem k_pop2 {k : Int} : popK2 i (.int k) ρ (some (.own t (.lst ds))) = if 0 ≤ k ∧ k < 2 ^ 62 then popK3 i t k ds ρ ds[k.toNat]? else .st := rfl
theorem k_pop : popK i fe ρ (some (.own t (.lst ds))) = (fe ρ).bind fun d ρ1 => popK2 i d ρ1 ρ1[i]? := rfl
theorem v_ePop : ePop i fe ρ = popK i fe ρ ρ[i]? := rfl
def apLK2 (i t : Nat) (d : D) (dss : List (List D)) (j : Nat) (ρ : List Sl) : Option (List D) → RE
  | some ds => if ds.length < sizeLine then .ok .non (ρ.set i (.own t (.ll (dss.set j (ds ++ [d]))))) else .st
  | none => .st
def apLK1 (i t : Nat) (d : D) (dss : List (List D)) (ρ : List Sl) : Option Nat → RE
  | some j => apLK2 i t d dss j ρ dss[j]?
  | none => .st
def apLK (i : Nat) (ρ : List Sl) : Option Sl → R D → R D → RE
  | some (.own t (.ll dss)), .ok (.int k1), .ok d => apLK1 i t d dss ρ (ixN dss.length k1)
  | _, _, _ => .st
theorem k_apL2 {dss : List (List D)} : apLK2 i t d dss j ρ (some ds) = if ds.length < sizeLine then .ok .non (ρ.set i (.own t (.ll (dss.set j (ds ++ [d]))))) else .st := rfl
theorem k_apL1 {dss : List (List D)} : apLK1 i t d dss ρ (some j) = apLK2 i t d dss j ρ dss[j]? := rfl
theorem k_apL {dss : List (List D)} {k1 : Int} : apLK i ρ (some (.own t (.ll dss))) (.ok (.int k1)) (.ok d) = apLK1 i t d dss ρ (ixN dss.length k1) := rfl
theorem v_eAppLL {g1 : List Sl → R D} : eAppLL i g1 g ρ = apLK i ρ ρ[i]? (g1 ρ) (g ρ) := rfl
def calK (F : List Sl → RS) (i : Nat) (ga : List Sl → RA) (ρ : List Sl) : Option Sl → RE
  | some (.own _ _) => (ga ρ).bindE fun ds ρ1 => callO F i ds ρ1
  | _ => .st
theorem k_cal {F : List Sl → RS} {ga : List Sl → RA} : calK F i ga ρ (some (.own t o)) = (ga ρ).bindE fun ds ρ1 => callO F i ds ρ1 := rfl
theorem v_eCallO {F : List Sl → RS} {ga : List Sl → RA} : eCallO F i ga ρ = calK F i ga ρ ρ[i]? := rfl
def calR (i t : Nat) (ρ : List Sl) : RS → RE
  | .ok (.rt d) (.own 1 o' :: _) => .ok d (ρ.set i (.own t o'))
  | .ex x (.own 1 o' :: _) => .ex x (ρ.set i (.own t o'))
  | _ => .st
def calO (F : List Sl → RS) (i : Nat) (ds : List D) (ρ : List Sl) : Option Sl → RE
  | some (.own t o) => calR i t ρ (F (.own 1 o :: ds.map .val))
  | _ => .st
theorem k_calR : calR i t ρ (.ok (.rt d) (.own 1 o :: ρ')) = .ok d (ρ.set i (.own t o)) := rfl
theorem k_calO {F : List Sl → RS} : calO F i ds ρ (some (.own t o)) = calR i t ρ (F (.own 1 o :: ds.map .val)) := rfl
theorem v_callO {F : List Sl → RS} : callO F i ds ρ = calO F i ds ρ ρ[i]? := rfl
theorem v_pSl {gl gh : List Sl → R (Option Int)} : pSl f gl gh ρ = (f ρ).bind fun x => (gl ρ).bind fun l => (gh ρ).bind fun h => slD x l h := rfl
theorem v_oNone : oNone ρ = .ok none := rfl
def someI : D → R (Option Int)
  | .int i => .ok (some i)
  | _ => .st
theorem v_oSome : oSome f ρ = (f ρ).bind someI := rfl
theorem kt_some {a : Int} : someI (.int a) = .ok (some a) := rfl
theorem v_i1 {F : D → R (List D)} : i1 F f ρ = (f ρ).bind F := rfl
theorem i_lst : itemsD (.lst ds) = .ok ds := rfl
theorem i_tup : itemsD (.tup ds) = .ok ds := rfl
theorem i_scr {ns : List Int} : itemsD (.scr ns) = .ok (ns.map .int) := rfl
theorem i_enumT : enumD (.tup ds) = .ok (numbered 0 ds) := rfl
theorem i_enumL : enumD (.lst ds) = .ok (numbered 0 ds) := rfl
theorem v_sFor {src : List Sl → R (List D)} : sFor src tf m ρ = (match src ρ with | .ok items => forGo tf m items ρ | .ex x => .ex x ρ | .st => .st) := rfl
theorem v_pM1 {F : D → D → R D} : pM1 F f g ρ = (f ρ).bind fun x => if isStr x then (g ρ).bind fun y => F x y else .st := rfl
def chK (r : R D) : D → R D
  | .bl true => r
  | .bl false => .ok (.bl false)
  | _ => .st
theorem v_pChain {F G : D → D → R D} : pChain F G f g h ρ = (f ρ).bind fun x => (g ρ).bind fun y => (F x y).bind fun z => chK ((h ρ).bind fun w => G y w) z := by
  rfl
theorem k_ch1 {r : R D} : chK r (.bl true) = r := rfl
theorem k_ch2 {r : R D} : chK r (.bl false) = .ok (.bl false) := rfl
theorem v_pIndex : pIndex f g ρ = (f ρ).bind fun x => if ixKind x then (g ρ).bind fun y => indexD x y else .st := rfl
theorem v_aLen {ga : List Sl → R (List D)} : aLen k ga ρ = (ga ρ).bind fun ds => if ds.length = k then .ok ds else .st := rfl
theorem v_aApp {ga gk : List Sl → R (List D)} : aApp j k ga gk ρ = (ga ρ).bind fun ds => (gk ρ).bind fun es => if ds.length = j ∧ es.length = k then .ok (ds ++ es) else .st := rfl
theorem v_pFrz {fo : List Sl → R Ow} : pFrz fo ρ = (fo ρ).bind fun o => if o.can then .ok o.d else .st := rfl
theorem v_pAO {F : List D → R Ow} {ga : List Sl → R (List D)} : pAO F ga ρ = (ga ρ).bind F := rfl
def lstK : D → R Ow
  | .lst ds => .ok (.lst ds)
  | _ => .st
theorem v_gLst : gLst f ρ = (f ρ).bind lstK := by
  rfl
theorem k_lst : lstK (.lst ds) = .ok (.lst ds) := rfl
theorem v_frz1 : frzS (i + 1) (s :: ρ) = s :: frzS i ρ := by
  unfold frzS
  rw [List.getElem?_cons_succ]
  rcases ρ[i]? with _ | s'
  · rfl
  · rcases s' with _ | d | ⟨t, o⟩
    · rfl
    · rfl
    · cases t with
      | zero => cases h : o.can <;> simp [h]
      | succ t => rfl
theorem v_frz0 : frzS 0 (.own 0 (.lst ds) :: ρ) = .val (.lst ds) :: ρ := rfl
theorem v_frz0l {dss : List (List D)} : frzS 0 (.own 0 (.ll dss) :: ρ) = .val (.lst (dss.map .lst)) :: ρ := rfl
theorem v_frzV : frzS 0 (.val d :: ρ) = .val d :: ρ := rfl
theorem v_frzU : frzS 0 (.un :: ρ) = .un :: ρ := rfl
theorem v_frzO : frzS 0 (.own (t + 1) o :: ρ) = .own (t + 1) o :: ρ := rfl
theorem o_mkL (h : fits ds = true) : mkL ds = .ok (.lst ds) := if_pos h
theorem o_mkT (h : fits ds = true) : mkT ds = .ok (.tup ds) := if_pos h
theorem fits_of {α : Type} {xs : List α} (h : xs.length ≤ 1000000) : fits xs = true := decide_eq_true (Nat.le_trans h (by rw [sizeLine_eq]; omega))
theorem fits0 {α : Type} : fits ([] : List α) = true := fits_of (by simp)
theorem fits1 {α : Type} {a : α} : fits [a] = true := fits_of (by simp)
theorem fits2 {α : Type} {a b : α} : fits [a, b] = true := fits_of (by simp)
theorem fits3 {α : Type} {a b c : α} : fits [a, b, c] = true := fits_of (by simp)
theorem fits4 {α : Type} {a b c d : α} : fits [a, b, c, d] = true := fits_of (by simp)
theorem o_mkT0 : mkT [] = .ok (.tup []) := o_mkT fits0
theorem o_mkT1 {a : D} : mkT [a] = .ok (.tup [a]) := o_mkT fits1
theorem o_mkT2 {a b : D} : mkT [a, b] = .ok (.tup [a, b]) := o_mkT fits2
theorem o_mkT3 {a b c : D} : mkT [a, b, c] = .ok (.tup [a, b, c]) := o_mkT fits3
theorem o_mkL0 : mkL [] = .ok (.lst []) := o_mkL fits0
theorem o_mkL1 {a : D} : mkL [a] = .ok (.lst [a]) := o_mkL fits1
theorem o_mkL2 {a b : D} : mkL [a, b] = .ok (.lst [a, b]) := o_mkL fits2
theorem o_mkL3 {a b c : D} : mkL [a, b, c] = .ok (.lst [a, b, c]) := o_mkL fits3
theorem o_isN : isD x .non = .ok (.bl x.isNon) := rfl
theorem o_isnN : isnD x .non = .ok (.bl (!x.isNon)) := rfl
theorem n_non : D.isNon .non = true := rfl
theorem n_int {a : Int} : D.isNon (.int a) = false := rfl
theorem n_str {a : Str} : D.isNon (.str a) = false := rfl
theorem n_bl {a : Bool} : D.isNon (.bl a) = false := rfl
theorem n_tup : D.isNon (.tup ds) = false := rfl
theorem n_lst : D.isNon (.lst ds) = false := rfl
theorem n_ins {C : Addr} {fs : List (Str × D)} : D.isNon (.ins C fs) = false := rfl
theorem o_isL : isL (.lst ds) = .ok (.lst ds) := rfl
theorem o_tupL : tupD (.lst ds) = .ok (.tup ds) := rfl
theorem o_tupT : tupD (.tup ds) = .ok (.tup ds) := rfl
theorem o_not {b : Bool} : notD (.bl b) = .ok (.bl !b) := rfl
theorem o_neg {a : Int} : negD (.int a) = .ok (.int (-a)) := rfl
theorem o_revT : revD (.tup ds) = .ok (.tup ds.reverse) := rfl
theorem o_revL : revD (.lst ds) = .ok (.lst ds.reverse) := rfl
theorem o_ixT0 : ixD (.tup (d :: ds)) (.int 0) = .ok d := o_ixT (k := 0) rfl
theorem o_ixT1 : ixD (.tup (x :: d :: ds)) (.int 1) = .ok d := o_ixT (k := 1) rfl
theorem o_ixT2 {z : D} : ixD (.tup (x :: z :: d :: ds)) (.int 2) = .ok d := o_ixT (k := 2) rfl
theorem kt_int {a : Int} {s : String} : isK s (.int a) = .ok (.bl (s == "int")) := rfl
theorem kt_str {a : Str} {s : String} : isK s (.str a) = .ok (.bl (s == "str")) := rfl
theorem kt_tup {s : String} : isK s (.tup ds) = .ok (.bl (s == "tuple")) := rfl
theorem kt_lst {s : String} : isK s (.lst ds) = .ok (.bl (s == "list")) := rfl
theorem kt_non {s : String} : isK s .non = .ok (.bl (s == "NoneType")) := rfl
theorem kt_bl {a : Bool} {s : String} : isK s (.bl a) = .ok (.bl (s == "bool" || s == "int")) := rfl
theorem if_true_ {α : Type} {x y : α} : (if true = true then x else y) = x := rfl
theorem if_false_ {α : Type} {x y : α} : (if false = true then x else y) = y := rfl
end
theorem ixN_nat {n k : Nat} (h : k < n) : ixN n (k : Int) = some k := by
  unfold ixN
  rw [if_pos (by omega), if_pos (by omega)]
  simp
theorem o_maxD {a b : Int} : maxD (.int a) (.int b) = .ok (.int (if b > a then b else a)) := rfl
theorem o_minD {a b : Int} : minD (.int a) (.int b) = .ok (.int (if b < a then b else a)) := rfl
theorem o_min3 {a b c : Int} : min3D (.int a) (.int b) (.int c) = .ok (.int (if c < (if b < a then b else a) then c else (if b < a then b else a))) := rfl
/-! ### what is wanted of a run -/
def Wp (r : RS) (Q : RS → Prop) : Prop := Q r
def WpO (o : Option (List Sl)) (F : List Sl → Prop) : Prop := match o with
  | some ρ => F ρ
  | none => False
theorem wpO_some {ρ : List Sl} {F : List Sl → Prop} : WpO (some ρ) F = F ρ := rfl
/-- a turn's end: the next turn, or what is behind the loop -/
def turnQ (P : List Sl → Prop) (Z : RS → Prop) : RS → Prop
  | .ok .nx ρ => P ρ
  | .ok .ct ρ => P ρ
  | .ok .bk ρ => Z (.ok .nx ρ)
  | .ok (.rt d) ρ => Z (.ok (.rt d) ρ)
  | .ok (.rtO d) ρ => Z (.ok (.rtO d) ρ)
  | .ex x ρ => Z (.ex x ρ)
  | .st => False
theorem turn_nx {P : List Sl → Prop} {Z : RS → Prop} {ρ : List Sl} : Wp (.ok .nx ρ) (turnQ P Z) = P ρ := rfl
theorem turn_ct {P : List Sl → Prop} {Z : RS → Prop} {ρ : List Sl} : Wp (.ok .ct ρ) (turnQ P Z) = P ρ := rfl
theorem turn_bk {P : List Sl → Prop} {Z : RS → Prop} {ρ : List Sl} : Wp (.ok .bk ρ) (turnQ P Z) = Z (.ok .nx ρ) := rfl
theorem turn_rt {P : List Sl → Prop} {Z : RS → Prop} {ρ : List Sl} {d : D} : Wp (.ok (.rt d) ρ) (turnQ P Z) = Z (.ok (.rt d) ρ) := rfl
theorem wp_ok {Q : RS → Prop} {f : Fl} {ρ : List Sl} : Wp (.ok f ρ) Q = Q (.ok f ρ) := rfl
theorem wp_end {r : RS} {Q : RS → Prop} (h : Wp (r.then fun ρ => .ok .nx ρ) Q) : Wp r Q := by
  have : (r.then fun ρ => .ok .nx ρ) = r := by
    rcases r with ⟨f, ρ⟩ | _ | _
    · cases f <;> rfl
    · rfl
    · rfl
  rwa [this] at h
/-- a value is handed back -/
def isRt (d : D) (r : RS) : Prop := ∃ ρ, r = .ok (.rt d) ρ
theorem isRt_ok {d : D} {ρ : List Sl} : Wp (.ok (.rt d) ρ) (isRt d) := ⟨ρ, rfl⟩
def isNx (r : RS) : Prop := ∃ ρ, r = .ok .nx ρ
def isRtO (o : Ow) (r : RS) : Prop := ∃ ρ, r = .ok (.rtO o) ρ
theorem callV_of {F : List Sl → RS} {ds : List D} {d : D} {ρ : List Sl} (h : F (ds.map .val) = .ok (.rt d) ρ) : callV F ds = .ok d := by unfold callV; rw [h]
theorem callL_of {F : List Sl → RS} {ds xs : List D} {ρ : List Sl} (h : F (ds.map .val) = .ok (.rtO (.lst xs)) ρ) : callL F ds = .ok (.lst xs) := by unfold callL; rw [h]
theorem runF_rt {nl : Nat} {m : List Sl → RS} {ρ ρ' : List Sl} {d : D} (h : m (ρ ++ List.replicate nl .un) = .ok (.rt d) ρ') : runF nl m ρ = .ok (.rt d) (back ρ ρ') := by unfold runF; rw [h]
theorem runF_nx {nl : Nat} {m : List Sl → RS} {ρ ρ' : List Sl} (h : m (ρ ++ List.replicate nl .un) = .ok .nx ρ') : runF nl m ρ = .ok (.rt .non) (back ρ ρ') := by unfold runF; rw [h]
theorem runF_rtO {nl : Nat} {m : List Sl → RS} {ρ ρ' : List Sl} {o : Ow} (h : m (ρ ++ List.replicate nl .un) = .ok (.rtO o) ρ') : runF nl m ρ = .ok (.rtO o) (back ρ ρ') := by unfold runF; rw [h]
/-- a def's value by its body -/
theorem cv_rt {nl : Nat} {m : List Sl → RS} {ds : List D} {d : D} (h : Wp (m (ds.map .val ++ List.replicate nl .un)) (isRt d)) : callV (runF nl m) ds = .ok d := by
  obtain ⟨ρ', h⟩ := h
  exact callV_of (runF_rt h)
theorem cv_nx {nl : Nat} {m : List Sl → RS} {ds : List D} (h : Wp (m (ds.map .val ++ List.replicate nl .un)) isNx) : callV (runF nl m) ds = .ok .non := by
  obtain ⟨ρ', h⟩ := h
  exact callV_of (runF_nx h)
theorem cv_rtO {nl : Nat} {m : List Sl → RS} {ds xs : List D} (h : Wp (m (ds.map .val ++ List.replicate nl .un)) (isRtO (.lst xs))) : callL (runF nl m) ds = .ok (.lst xs) := by
  obtain ⟨ρ', h⟩ := h
  exact callL_of (runF_rtO h)
/-! ### comprehensions -/
theorem lcGo_map {α : Type} (enc : α → D) (φ : α → D) {tf : D → List Sl → Option (List Sl)} {c : List Sl → R Bool} {g : List Sl → R D} {ρ : List Sl} : ∀ (xs : List α),
    (∀ x ∈ xs, ∃ ρ1, tf (enc x) ρ = some ρ1 ∧ c ρ1 = .ok true ∧ g ρ1 = .ok (φ x)) → lcGo tf c g ρ (xs.map enc) = .ok (xs.map φ)
  | [], _ => rfl
  | x :: xs, h => by
    obtain ⟨ρ1, h1, h2, h3⟩ := h x List.mem_cons_self
    have ih := lcGo_map enc φ xs fun y hy => h y (List.mem_cons_of_mem _ hy)
    rw [List.map_cons]
    unfold lcGo
    rw [h1]
    dsimp only
    rw [h2, R.bind_ok, if_true_, h3, R.bind_ok, ih]
    rfl
theorem lcGo_filter {α : Type} (enc : α → D) (p : α → Bool) (φ : α → D) {tf : D → List Sl → Option (List Sl)} {c : List Sl → R Bool} {g : List Sl → R D} {ρ : List Sl} : ∀ (xs : List α),
    (∀ x ∈ xs, ∃ ρ1, tf (enc x) ρ = some ρ1 ∧ c ρ1 = .ok (p x) ∧ (p x = true → g ρ1 = .ok (φ x))) → lcGo tf c g ρ (xs.map enc) = .ok ((xs.filter p).map φ)
  | [], _ => rfl
  | x :: xs, h => by
    obtain ⟨ρ1, h1, h2, h3⟩ := h x List.mem_cons_self
    have ih := lcGo_filter enc p φ xs fun y hy => h y (List.mem_cons_of_mem _ hy)
    rw [List.map_cons]
    unfold lcGo
    rw [h1]
    dsimp only
    rw [h2, R.bind_ok]
    cases q : p x with
    | true =>
      rw [if_true_, h3 q, R.bind_ok, ih, List.filter_cons_of_pos q]
      rfl
    | false =>
      rw [if_false_, ih, List.filter_cons_of_neg (by rw [q]; simp)]
theorem pLc_map {α : Type} {src : List Sl → R (List D)} {vs : List Nat} {tf : D → List Sl → Option (List Sl)} {c : List Sl → R Bool} {g : List Sl → R D} {ρ : List Sl} (enc : α → D) (φ : α → D) (xs : List α) (hs : src ρ = .ok (xs.map enc))
    (h : ∀ x ∈ xs, ∃ ρ1, tf (enc x) (wipeS ρ vs) = some ρ1 ∧ c ρ1 = .ok true ∧ g ρ1 = .ok (φ x)) (hl : xs.length ≤ 1000000) : pLc src vs tf c g ρ = .ok (.lst (xs.map φ)) := by
  unfold pLc
  rw [hs, R.bind_ok, lcGo_map enc φ xs h]
  exact o_mkL (fits_of (by rw [List.length_map]; exact hl))
theorem pLc_filter {α : Type} {src : List Sl → R (List D)} {vs : List Nat} {tf : D → List Sl → Option (List Sl)} {c : List Sl → R Bool} {g : List Sl → R D} {ρ : List Sl} (enc : α → D) (p : α → Bool) (φ : α → D) (xs : List α) (hs : src ρ = .ok (xs.map enc))
    (h : ∀ x ∈ xs, ∃ ρ1, tf (enc x) (wipeS ρ vs) = some ρ1 ∧ c ρ1 = .ok (p x) ∧ (p x = true → g ρ1 = .ok (φ x))) (hl : xs.length ≤ 1000000) : pLc src vs tf c g ρ = .ok (.lst ((xs.filter p).map φ)) := by
  unfold pLc
  rw [hs, R.bind_ok, lcGo_filter enc p φ xs h]
  exact o_mkL (fits_of (by rw [List.length_map]; exact Nat.le_trans (List.length_filter_le _ _) hl))
theorem llGo_map {α : Type} (enc : α → D) (φ : α → List D) {tf : D → List Sl → Option (List Sl)} {c : List Sl → R Bool} {g : List Sl → R D} {ρ : List Sl} : ∀ (xs : List α),
    (∀ x ∈ xs, ∃ ρ1, tf (enc x) ρ = some ρ1 ∧ c ρ1 = .ok true ∧ g ρ1 = .ok (.lst (φ x))) → llGo tf c g ρ (xs.map enc) = .ok (xs.map φ)
  | [], _ => rfl
  | x :: xs, h => by
    obtain ⟨ρ1, h1, h2, h3⟩ := h x List.mem_cons_self
    have ih := llGo_map enc φ xs fun y hy => h y (List.mem_cons_of_mem _ hy)
    rw [List.map_cons]
    unfold llGo
    rw [h1]
    dsimp only
    rw [h2, R.bind_ok, if_true_, h3, R.bind_ok]
    unfold lst?
    rw [R.bind_ok, ih]
    rfl
theorem gLl_map {α : Type} {src : List Sl → R (List D)} {vs : List Nat} {tf : D → List Sl → Option (List Sl)} {c : List Sl → R Bool} {g : List Sl → R D} {ρ : List Sl} (enc : α → D) (φ : α → List D) (xs : List α) (hs : src ρ = .ok (xs.map enc))
    (h : ∀ x ∈ xs, ∃ ρ1, tf (enc x) (wipeS ρ vs) = some ρ1 ∧ c ρ1 = .ok true ∧ g ρ1 = .ok (.lst (φ x))) (hl : xs.length ≤ 1000000) : gLl src vs tf c g ρ = .ok (.ll (xs.map φ)) := by
  unfold gLl
  rw [hs, R.bind_ok, llGo_map enc φ xs h]
  exact if_pos (fits_of (by rw [List.length_map]; exact hl))
/-! ### ranges -/
def arr {α : Type} (n : Nat) (g : Nat → α) : List α := (List.range n).map g

theorem rangeD_map (n : Nat) : rangeD 0 n = (List.range n).map fun k : Nat => D.int k := by
  unfold rangeD
  rw [Int.sub_zero, Int.toNat_natCast]
  congr 1
  funext k
  rw [Int.zero_add]
theorem two62' {r : Nat} (h : r < 1073741824) : (0 : Int) ≤ (r : Int) ∧ (r : Int) < 2 ^ 62 := by
  refine ⟨Int.natCast_nonneg _, ?_⟩
  have e : (2 : Int) ^ 62 = 4611686018427387904 := by simp
  rw [e]
  omega
theorem ok62_int {n : Int} (h : -1000000000 < n) (h2 : n < 1000000000) : ok62 n = true := by
  unfold ok62
  rw [Bool.and_eq_true, decide_eq_true_eq, decide_eq_true_eq]
  have e : (2 : Int) ^ 62 = 4611686018427387904 := by simp
  rw [e]
  exact ⟨by omega, by omega⟩
theorem if_ok' {α : Type} {b : Bool} (h : b = true) (x y : α) : (if b then x else y) = x := by subst h; rfl
theorem v_range1 {f : List Sl → R D} {ρ : List Sl} {n : Nat} (e : f ρ = .ok (.int (n : Int))) (h : n < 1000000000) : iRange1 f ρ = .ok (arr n fun k : Nat => D.int k) := by
  have h1 := if_ok' (ok62_int (n := (n : Int)) (by omega) (by omega)) (R.ok (rangeD 0 n)) .st
  unfold iRange1
  unfold arr
  rw [e, R.bind_ok, ← rangeD_map]
  generalize hb : ok62 (n : Int) = b at h1
  dsimp only
  rw [hb]
  exact h1
theorem rangeD_map2 (a n : Nat) (h : a ≤ n) : rangeD a n = (List.range' a (n - a)).map fun k : Nat => D.int k := by
  unfold rangeD
  rw [List.range'_eq_map_range, List.map_map]
  have : ((n : Int) - a).toNat = n - a := by omega
  rw [this]
  congr 1
theorem v_range2 {f g : List Sl → R D} {ρ : List Sl} {a n : Nat} (e1 : f ρ = .ok (.int (a : Int))) (e2 : g ρ = .ok (.int (n : Int))) (ha : a ≤ n) (h : n < 1000000000) : iRange2 f g ρ = .ok ((List.range' a (n - a)).map fun k : Nat => D.int k) := by
  have h0 : (ok62 (a : Int) && ok62 (n : Int)) = true := by rw [ok62_int (n := (n : Int)) (by omega) (by omega), ok62_int (n := (a : Int)) (by omega) (by omega)]; rfl
  have h1 := if_ok' h0 (R.ok (rangeD a n)) .st
  unfold iRange2
  rw [e1, R.bind_ok, e2, R.bind_ok, ← rangeD_map2 a n ha]
  generalize hb : (ok62 (a : Int) && ok62 (n : Int)) = b at h1
  dsimp only
  rw [hb]
  exact h1
theorem j_range1 {fe : List Sl → RE} {ρ ρ1 : List Sl} {n : Nat} (e : fe ρ = .ok (.int (n : Int)) ρ1) (h : n < 1000000000) : jRange1 fe ρ = .ok (arr n fun k : Nat => D.int k) ρ1 := by
  have h1 := if_ok' (ok62_int (n := (n : Int)) (by omega) (by omega)) (RI.ok (rangeD 0 n) ρ1) .st
  unfold jRange1 arr
  rw [e, RE.bindI_ok, ← rangeD_map]
  generalize hb : ok62 (n : Int) = b at h1
  dsimp only
  rw [hb]
  exact h1
/-! ### loops -/
theorem forGo_wp {α : Type} {tf : D → List Sl → Option (List Sl)} {body : List Sl → RS} (enc : α → D) (P : Nat → List Sl → Prop) {Q : RS → Prop} : ∀ (xs : List α) (k : Nat) (ρ : List Sl), P k ρ →
    (∀ (j : Nat) (x : α) (ρ : List Sl), xs[j]? = some x → P (k + j) ρ → WpO (tf (enc x) ρ) fun ρ1 => Wp (body ρ1) (turnQ (P (k + j + 1)) Q)) →
    (∀ ρ, P (k + xs.length) ρ → Q (.ok .nx ρ)) → Q (forGo tf body (xs.map enc) ρ)
  | [], k, ρ, h, _, fin => fin ρ (by simpa using h)
  | d :: items, k, ρ, h, st, fin => by
    have s0 := st 0 d ρ rfl (by simpa using h)
    have next : ∀ ρ2, P (k + 1) ρ2 → Q (forGo tf body (items.map enc) ρ2) := fun ρ2 h2 => forGo_wp enc P items (k + 1) ρ2 h2 (fun j x ρ hj hP => by
      have := st (j + 1) x ρ (by simpa using hj) (by rw [show k + (j + 1) = k + 1 + j by omega]; exact hP)
      rw [show k + (j + 1) + 1 = k + 1 + j + 1 by omega] at this
      exact this) (fun ρ hP => fin ρ (by rw [List.length_cons, show k + (items.length + 1) = k + 1 + items.length by omega]; exact hP))
    rw [List.map_cons]
    unfold forGo
    cases q : tf (enc d) ρ with
    | none => rw [q] at s0; exact s0.elim
    | some ρ1 =>
      rw [q] at s0
      dsimp only
      have s1 : turnQ (P (k + 0 + 1)) Q (body ρ1) := s0
      rcases hb : body ρ1 with ⟨f, ρ2⟩ | ⟨x, ρ2⟩ | _
      · rw [hb] at s1
        cases f with
        | nx => exact next ρ2 s1
        | ct => exact next ρ2 s1
        | bk => exact s1
        | rt d => exact s1
        | rtO o => exact s1
      · rw [hb] at s1; exact s1
      · rw [hb] at s1; exact s1.elim
section
variable {α : Type} {tf : D → List Sl → Option (List Sl)} {body kont : List Sl → RS} {Q : RS → Prop} {ρ : List Sl}
theorem wp_for {src : List Sl → R (List D)} (enc : α → D) (P : Nat → List Sl → Prop) (xs : List α) (hs : src ρ = .ok (xs.map enc)) (h0 : P 0 ρ)
    (st : ∀ (j : Nat) (x : α) (ρ : List Sl), xs[j]? = some x → P j ρ → WpO (tf (enc x) ρ) fun ρ1 => Wp (body ρ1) (turnQ (P (j + 1)) fun r => Wp (r.then kont) Q))
    (fin : ∀ ρ, P xs.length ρ → Wp (kont ρ) Q) : Wp ((sFor src tf body ρ).then kont) Q := by
  unfold sFor
  rw [hs]
  exact forGo_wp (Q := fun r => Wp (r.then kont) Q) enc P xs 0 ρ h0 (fun j x ρ hj hP => by
    have := st j x ρ hj (by simpa using hP)
    rwa [Nat.zero_add]) fun ρ hP => fin ρ (by simpa using hP)
/-- over range(n) -/
theorem wp_range {src : List Sl → R (List D)} (P : Nat → List Sl → Prop) (n : Nat) {enc : Nat → D} (hs : src ρ = .ok (arr n enc)) (h0 : P 0 ρ)
    (st : ∀ (j : Nat) (ρ : List Sl), j < n → P j ρ → WpO (tf (enc j) ρ) fun ρ1 => Wp (body ρ1) (turnQ (P (j + 1)) fun r => Wp (r.then kont) Q))
    (fin : ∀ ρ, P n ρ → Wp (kont ρ) Q) : Wp ((sFor src tf body ρ).then kont) Q :=
  wp_for enc P (List.range n) hs h0 (fun j x ρ hj hP => by
    obtain ⟨h1, h2⟩ := List.getElem?_eq_some_iff.mp hj
    rw [List.length_range] at h1
    rw [List.getElem_range] at h2
    subst h2
    exact st j ρ h1 hP) fun ρ hP => fin ρ (by rwa [List.length_range] at hP)
theorem wp_forE {src : List Sl → RI} {ρ1 : List Sl} (enc : α → D) (P : Nat → List Sl → Prop) (xs : List α) (hs : src ρ = .ok (xs.map enc) ρ1) (h0 : P 0 ρ1)
    (st : ∀ (j : Nat) (x : α) (ρ : List Sl), xs[j]? = some x → P j ρ → WpO (tf (enc x) ρ) fun ρ1 => Wp (body ρ1) (turnQ (P (j + 1)) fun r => Wp (r.then kont) Q))
    (fin : ∀ ρ, P xs.length ρ → Wp (kont ρ) Q) : Wp ((sForE src tf body ρ).then kont) Q := by
  unfold sForE
  rw [hs]
  exact forGo_wp (Q := fun r => Wp (r.then kont) Q) enc P xs 0 ρ1 h0 (fun j x ρ hj hP => by
    have := st j x ρ hj (by simpa using hP)
    rwa [Nat.zero_add]) fun ρ hP => fin ρ (by simpa using hP)
theorem wp_rangeE {src : List Sl → RI} {ρ1 : List Sl} (P : Nat → List Sl → Prop) (n : Nat) {enc : Nat → D} (hs : src ρ = .ok (arr n enc) ρ1) (h0 : P 0 ρ1)
    (st : ∀ (j : Nat) (ρ : List Sl), j < n → P j ρ → WpO (tf (enc j) ρ) fun ρ1 => Wp (body ρ1) (turnQ (P (j + 1)) fun r => Wp (r.then kont) Q))
    (fin : ∀ ρ, P n ρ → Wp (kont ρ) Q) : Wp ((sForE src tf body ρ).then kont) Q :=
  wp_forE enc P (List.range n) hs h0 (fun j x ρ hj hP => by
    obtain ⟨h1, h2⟩ := List.getElem?_eq_some_iff.mp hj
    rw [List.length_range] at h1
    rw [List.getElem_range] at h2
    subst h2
    exact st j ρ h1 hP) fun ρ hP => fin ρ (by rwa [List.length_range] at hP)
/-- what is done is told by the part taken -/
theorem wp_pre {src : List Sl → R (List D)} (enc : α → D) (P : List α → List Sl → Prop) (xs : List α) (hs : src ρ = .ok (xs.map enc)) (h0 : P [] ρ)
    (st : ∀ (pre : List α) (x : α) (post : List α) (ρ : List Sl), xs = pre ++ x :: post → P pre ρ → WpO (tf (enc x) ρ) fun ρ1 => Wp (body ρ1) (turnQ (P (pre ++ [x])) fun r => Wp (r.then kont) Q))
    (fin : ∀ ρ, P xs ρ → Wp (kont ρ) Q) : Wp ((sFor src tf body ρ).then kont) Q :=
  wp_for enc (fun k ρ => P (xs.take k) ρ) xs hs (by simpa using h0) (fun j x ρ hj hP => by
    have hlt : j < xs.length := (List.getElem?_eq_some_iff.mp hj).1
    have hx : xs[j] = x := (List.getElem?_eq_some_iff.mp hj).2
    have e : xs = xs.take j ++ x :: xs.drop (j + 1) := by
      rw [← hx, ← List.drop_eq_getElem_cons hlt, List.take_append_drop]
    have := st (xs.take j) x (xs.drop (j + 1)) ρ e hP
    rwa [List.take_succ_eq_append_getElem hlt, hx]) fun ρ hP => fin ρ (by simpa using hP)
theorem whileGo_wp {c : List Sl → R Bool} {fuel : Nat} (P : Nat → List Sl → Prop) (hk : ∀ k ρ, P k ρ → k < fuel)
    (st : ∀ k ρ, P k ρ → (c ρ = .ok false ∧ Q (.ok .nx ρ)) ∨ (c ρ = .ok true ∧ Wp (body ρ) (turnQ (P (k + 1)) Q))) : ∀ (m k : Nat) (ρ : List Sl), m + k = fuel → P k ρ → Q (whileGo c body m ρ) := by
  intro m
  induction m with
  | zero => intro k ρ e h; have := hk k ρ h; omega
  | succ m ih =>
    intro k ρ e h
    unfold whileGo
    rcases st k ρ h with ⟨h1, h2⟩ | ⟨h1, h2⟩
    · rw [h1, R.seqB_ok]; exact h2
    · rw [h1, R.seqB_ok]
      have s1 : turnQ (P (k + 1)) Q (body ρ) := h2
      rw [if_true_]
      rcases hb : body ρ with ⟨f, ρ2⟩ | ⟨x, ρ2⟩ | _
      · rw [hb] at s1
        cases f with
        | nx => exact ih (k + 1) ρ2 (by omega) s1
        | ct => exact ih (k + 1) ρ2 (by omega) s1
        | bk => exact s1
        | rt d => exact s1
        | rtO o => exact s1
      · rw [hb] at s1; exact s1
      · rw [hb] at s1; exact s1.elim
theorem wp_while {c : List Sl → R Bool} {fuel : Nat} (P : Nat → List Sl → Prop) (hk : ∀ k ρ, P k ρ → k < fuel) (h0 : P 0 ρ)
    (st : ∀ k ρ, P k ρ → (c ρ = .ok false ∧ Wp (kont ρ) Q) ∨ (c ρ = .ok true ∧ Wp (body ρ) (turnQ (P (k + 1)) fun r => Wp (r.then kont) Q))) : Wp ((whileGo c body fuel ρ).then kont) Q :=
  whileGo_wp (Q := fun r => Wp (r.then kont) Q) P hk st fuel 0 ρ (by omega) h0
end
end MA

set_option Elab.async false
set_option linter.all false
/-! Graphs on numbers: walks, least lengths. -/
namespace Gr
abbrev Es := List (Nat × Nat)
def Adj (L : Es) (u v : Nat) : Prop := (u, v) ∈ L ∨ (v, u) ∈ L
theorem Adj.symm {L : Es} {u v : Nat} (h : Adj L u v) : Adj L v u := Or.symm h
inductive Wk (L : Es) (u : Nat) : Nat → Nat → Prop
  | nil : Wk L u 0 u
  | snoc {k v w : Nat} : Wk L u k v → Adj L v w → Wk L u (k + 1) w
theorem Wk.trans {L : Es} {u v w : Nat} {j k : Nat} (a : Wk L u j v) (b : Wk L v k w) : Wk L u (j + k) w := by
  induction b with
  | nil => exact a
  | snoc _ e ih => exact .snoc ih e
theorem Wk.one {L : Es} {u v : Nat} (e : Adj L u v) : Wk L u 1 v := .snoc .nil e
theorem Wk.cast {L : Es} {u v : Nat} {j k : Nat} (a : Wk L u j v) (e : j = k) : Wk L u k v := e ▸ a
theorem Wk.symm {L : Es} {u v : Nat} {k : Nat} (a : Wk L u k v) : Wk L v k u := by
  induction a with
  | nil => exact .nil
  | snoc _ e ih => exact ((Wk.one e.symm).trans ih).cast (by omega)
theorem Wk.zero {L : Es} {u v : Nat} (a : Wk L u 0 v) : u = v := by cases a; rfl
theorem Wk.mono {L L' : Es} (h : ∀ u v, Adj L u v → Adj L' u v) {u v k : Nat} (a : Wk L u k v) : Wk L' u k v := by
  induction a with
  | nil => exact .nil
  | snoc _ e ih => exact .snoc ih (h _ _ e)
structure Dist (L : Es) (u v k : Nat) : Prop where
  w : Wk L u k v
  l : ∀ j, Wk L u j v → k ≤ j
theorem Dist.uniq {L : Es} {u v j k : Nat} (a : Dist L u v j) (b : Dist L u v k) : j = k := Nat.le_antisymm (a.l _ b.w) (b.l _ a.w)
theorem least {P : Nat → Prop} : ∀ (k : Nat), P k → ∃ d, d ≤ k ∧ P d ∧ ∀ j, P j → d ≤ j := by
  intro k
  induction k using Nat.strongRecOn with
  | ind k ih =>
    intro h
    by_cases q : ∃ j, j < k ∧ P j
    · obtain ⟨j, hj, pj⟩ := q
      obtain ⟨d, h1, h2, h3⟩ := ih j hj pj
      exact ⟨d, by omega, h2, h3⟩
    · exact ⟨k, Nat.le_refl _, h, fun j pj => Nat.le_of_not_lt fun z => q ⟨j, z, pj⟩⟩
theorem Wk.dist {L : Es} {u v k : Nat} (a : Wk L u k v) : ∃ d, d ≤ k ∧ Dist L u v d := by
  obtain ⟨d, h1, h2, h3⟩ := least (P := fun j => Wk L u j v) k a
  exact ⟨d, h1, h2, h3⟩
theorem Dist.symm {L : Es} {u v k : Nat} (a : Dist L u v k) : Dist L v u k := ⟨a.w.symm, fun j w => a.l j w.symm⟩
theorem Dist.self {L : Es} (u : Nat) : Dist L u u 0 := ⟨.nil, fun _ _ => Nat.zero_le _⟩
theorem Dist.zero {L : Es} {u v : Nat} (a : Dist L u v 0) : u = v := a.w.zero
theorem Dist.one {L : Es} {u v : Nat} (e : Adj L u v) (h : u ≠ v) : Dist L u v 1 := ⟨.one e, fun j w => by
  cases j with
  | zero => exact absurd w.zero h
  | succ j => omega⟩
theorem Dist.adj {L : Es} {u v : Nat} (a : Dist L u v 1) : Adj L u v := by
  cases a.w with
  | snoc w e => cases w; exact e
theorem Dist.pred {L : Es} {u v k : Nat} (a : Dist L u v (k + 1)) : ∃ w, Dist L u w k ∧ Adj L w v := by
  cases a.w with
  | @snoc _ w _ b e => exact ⟨w, ⟨b, fun j c => by have := a.l _ (c.snoc e); omega⟩, e⟩
theorem Dist.step {L : Es} {u v w k : Nat} (a : Dist L u v k) (e : Adj L v w) : ∃ j, j ≤ k + 1 ∧ Dist L u w j := (a.w.snoc e).dist
theorem Dist.tri {L : Es} {u v w j k d : Nat} (a : Dist L u v j) (b : Dist L v w k) (c : Dist L u w d) : d ≤ j + k := c.l _ (a.w.trans b.w)
theorem Dist.near {L : Es} {u v w j k : Nat} (a : Dist L u v j) (b : Dist L u w k) (e : Adj L v w) : j ≤ k + 1 ∧ k ≤ j + 1 :=
  ⟨a.l _ (b.w.snoc e.symm), b.l _ (a.w.snoc e)⟩
/-! ### few places -/
def Within (L : Es) (n : Nat) : Prop := ∀ p ∈ L, p.1 < n ∧ p.2 < n
theorem Within.adj {L : Es} {n u v : Nat} (h : Within L n) (e : Adj L u v) : u < n ∧ v < n := by
  rcases e with e | e
  · exact h _ e
  · exact ⟨(h _ e).2, (h _ e).1⟩
theorem Wk.lt {L : Es} {n u v k : Nat} (h : Within L n) (hu : u < n) (a : Wk L u k v) : v < n := by
  cases a with
  | nil => exact hu
  | snoc _ e => exact (h.adj e).2
theorem nodup_le {α : Type} [DecidableEq α] : ∀ (l m : List α), l.Nodup → (∀ x ∈ l, x ∈ m) → l.length ≤ m.length
  | [], m, _, _ => Nat.zero_le _
  | a :: l, m, nd, h => by
    have ha : a ∈ m := h a List.mem_cons_self
    have := nodup_le l (m.erase a) (List.nodup_cons.mp nd).2 fun x hx => by
      have hne : x ≠ a := fun z => (List.nodup_cons.mp nd).1 (z ▸ hx)
      exact (List.mem_erase_of_ne hne).mpr (h x (List.mem_cons_of_mem _ hx))
    rw [List.length_erase_of_mem ha] at this
    have h2 : 0 < m.length := List.length_pos_of_mem ha
    rw [List.length_cons]
    omega
/-- a row of places of each lesser distance -/
theorem Dist.row {L : Es} {n u : Nat} (h : Within L n) (hu : u < n) : ∀ {k v : Nat}, Dist L u v k → ∃ l : List Nat, l.length = k + 1 ∧ l.Nodup ∧ (∀ x ∈ l, x < n) ∧ ∀ x ∈ l, ∃ j, j ≤ k ∧ Dist L u x j := by
  intro k
  induction k with
  | zero =>
    intro v a
    refine ⟨[v], rfl, by simp, fun x hx => ?_, fun x hx => ⟨0, Nat.le_refl _, ?_⟩⟩
    · simp at hx; subst hx; exact a.w.lt h hu
    · simp at hx; subst hx; exact a
  | succ k ih =>
    intro v a
    obtain ⟨w, b, e⟩ := a.pred
    obtain ⟨l, h1, h2, h3, h4⟩ := ih b
    refine ⟨v :: l, by simp [h1], List.nodup_cons.mpr ⟨fun hv => ?_, h2⟩, fun x hx => ?_, fun x hx => ?_⟩
    · obtain ⟨j, hj, c⟩ := h4 v hv
      have := a.uniq c
      omega
    · rcases List.mem_cons.mp hx with rfl | hx
      · exact a.w.lt h hu
      · exact h3 x hx
    · rcases List.mem_cons.mp hx with rfl | hx
      · exact ⟨k + 1, Nat.le_refl _, a⟩
      · obtain ⟨j, hj, c⟩ := h4 x hx
        exact ⟨j, by omega, c⟩
theorem Dist.lt {L : Es} {n u v k : Nat} (h : Within L n) (hu : u < n) (a : Dist L u v k) : k < n := by
  obtain ⟨l, h1, h2, h3, _⟩ := a.row h hu
  have := nodup_le l (List.range n) h2 fun x hx => List.mem_range.mpr (h3 x hx)
  rw [List.length_range] at this
  omega
/-! ### webs: all hang together -/
def Hang (L : Es) (n : Nat) : Prop := ∀ v, v < n → ∃ k, Wk L 0 k v
theorem Hang.wk {L : Es} {n u v : Nat} (h : Hang L n) (hu : u < n) (hv : v < n) : ∃ k, Wk L u k v := by
  obtain ⟨j, a⟩ := h u hu
  obtain ⟨k, b⟩ := h v hv
  exact ⟨j + k, a.symm.trans b⟩
theorem Hang.dist {L : Es} {n u v : Nat} (h : Hang L n) (hu : u < n) (hv : v < n) : ∃ k, Dist L u v k := by
  obtain ⟨k, a⟩ := h.wk hu hv
  obtain ⟨d, _, b⟩ := a.dist
  exact ⟨d, b⟩
open Classical in
/-- the distance; 99 for none -/
noncomputable def dst (L : Es) (u v : Nat) : Nat := if h : ∃ k, Dist L u v k then Classical.choose h else 99
theorem dst_of {L : Es} {u v k : Nat} (h : Dist L u v k) : dst L u v = k := by
  have e : ∃ k, Dist L u v k := ⟨k, h⟩
  unfold dst
  rw [dif_pos e]
  exact (Classical.choose_spec e).uniq h
theorem Hang.dst {L : Es} {n u v : Nat} (h : Hang L n) (hu : u < n) (hv : v < n) : Dist L u v (dst L u v) := by
  obtain ⟨k, a⟩ := h.dist hu hv
  rw [dst_of a]; exact a
theorem dst_symm {L : Es} (u v : Nat) : dst L u v = dst L v u := by
  by_cases h : ∃ k, Dist L u v k
  · obtain ⟨k, a⟩ := h
    rw [dst_of a, dst_of a.symm]
  · have h2 : ¬ ∃ k, Dist L v u k := fun ⟨k, a⟩ => h ⟨k, a.symm⟩
    unfold dst
    rw [dif_neg h, dif_neg h2]
theorem dst_self {L : Es} (u : Nat) : dst L u u = 0 := dst_of (.self u)
end Gr

set_option Elab.async false
set_option linter.all false
/-! Graphs, second part: rounds from one place; through all places in turn. -/
namespace Gr
/-! ### rounds -/
def upd1 {α : Type} (g : Nat → α) (i : Nat) (x : α) : Nat → α := fun k => if k = i then x else g k
def upd2 {α : Type} (g : Nat → Nat → α) (i j : Nat) (x : α) : Nat → Nat → α := fun k l => if k = i ∧ l = j then x else g k l
theorem upd1_same {α : Type} (g : Nat → α) (i : Nat) (x : α) : upd1 g i x i = x := by simp [upd1]
theorem upd1_ne {α : Type} (g : Nat → α) {i k : Nat} (x : α) (h : k ≠ i) : upd1 g i x k = g k := by simp [upd1, h]
def visit (far : Nat) (s : (Nat → Option Nat) × List Nat) (o : Nat) : (Nat → Option Nat) × List Nat := match s.1 o with
  | none => (upd1 s.1 o (some far), s.2 ++ [o])
  | some _ => s
theorem visits {far : Nat} : ∀ (os : List Nat) (g : Nat → Option Nat) (l : List Nat), l.Nodup → (∀ v ∈ l, g v ≠ none) →
    (∀ v, (os.foldl (visit far) (g, l)).1 v = if g v = none ∧ v ∈ os then some far else g v) ∧
    (∀ v, v ∈ (os.foldl (visit far) (g, l)).2 ↔ v ∈ l ∨ (g v = none ∧ v ∈ os)) ∧ (os.foldl (visit far) (g, l)).2.Nodup
  | [], g, l, nd, h => ⟨fun v => by simp, fun v => by simp, nd⟩
  | o :: os, g, l, nd, h => by
    rw [List.foldl_cons]
    cases q : g o with
    | some d =>
      have e : visit far (g, l) o = (g, l) := by unfold visit; dsimp only; rw [q]
      rw [e]
      obtain ⟨a, b, c⟩ := visits (far := far) os g l nd h
      refine ⟨fun v => ?_, fun v => ?_, c⟩
      · rw [a v]
        by_cases hv : v = o
        · subst hv; simp [q]
        · simp [hv]
      · rw [b v]
        by_cases hv : v = o
        · subst hv; simp [q]
        · simp [hv]
    | none =>
      have e : visit far (g, l) o = (upd1 g o (some far), l ++ [o]) := by unfold visit; dsimp only; rw [q]
      rw [e]
      have ho : o ∉ l := fun z => h o z q
      obtain ⟨a, b, c⟩ := visits (far := far) os (upd1 g o (some far)) (l ++ [o]) (by
          rw [List.nodup_append]
          exact ⟨nd, by simp, fun x hx y hy => by simp at hy; subst hy; exact fun z => ho (z ▸ hx)⟩) (fun v hv => by
          rcases List.mem_append.mp hv with hv | hv
          · have : v ≠ o := fun z => ho (z ▸ hv)
            rw [upd1_ne _ _ this]; exact h v hv
          · simp at hv; subst hv; rw [upd1_same]; simp)
      refine ⟨fun v => ?_, fun v => ?_, c⟩
      · rw [a v]
        by_cases hv : v = o
        · subst hv; simp [q, upd1_same]
        · rw [upd1_ne _ _ hv]; simp [hv]
      · rw [b v]
        by_cases hv : v = o
        · subst hv; simp [q, upd1_same]
        · rw [upd1_ne _ _ hv]; simp [hv]
/-- what is known behind round k -/
structure Lev (L : Es) (u k : Nat) (g : Nat → Option Nat) (row : List Nat) : Prop where
  g : ∀ v d, g v = some d ↔ Dist L u v d ∧ d ≤ k
  r : ∀ v, v ∈ row ↔ Dist L u v k
  nd : row.Nodup
theorem Lev.start (L : Es) (u : Nat) : Lev L u 0 (upd1 (fun _ => none) u (some 0)) [u] := by
  refine ⟨fun v d => ?_, fun v => ?_, by simp⟩
  · by_cases h : v = u
    · subst h
      rw [upd1_same]
      constructor
      · intro e; cases e; exact ⟨.self _, Nat.le_refl _⟩
      · rintro ⟨a, b⟩; have : d = 0 := by omega
        rw [this]
    · rw [upd1_ne _ _ h]
      constructor
      · intro e; cases e
      · rintro ⟨a, b⟩
        have : d = 0 := by omega
        subst this
        exact absurd a.zero.symm h
  · constructor
    · intro h; simp at h; subst h; exact .self _
    · intro a; simp; exact a.zero.symm
theorem Lev.next {L : Es} {u k : Nat} {g : Nat → Option Nat} {row os : List Nat} (h : Lev L u k g row) (ho : ∀ v, v ∈ os ↔ ∃ p ∈ row, Adj L p v) :
    Lev L u (k + 1) (os.foldl (visit (k + 1)) (g, [])).1 (os.foldl (visit (k + 1)) (g, [])).2 := by
  obtain ⟨a, b, c⟩ := visits (far := k + 1) os g [] (by simp) (by simp)
  have new : ∀ v, (g v = none ∧ v ∈ os) ↔ Dist L u v (k + 1) := by
    intro v
    constructor
    · rintro ⟨h1, h2⟩
      obtain ⟨p, hp, e⟩ := (ho v).mp h2
      obtain ⟨j, hj, dv⟩ := ((h.r p).mp hp).step e
      by_cases hk : j ≤ k
      · rw [(h.g v j).mpr ⟨dv, hk⟩] at h1; cases h1
      · have : j = k + 1 := by omega
        rw [← this]; exact dv
    · intro dv
      constructor
      · cases q : g v with
        | none => rfl
        | some d =>
          obtain ⟨x, y⟩ := (h.g v d).mp q
          have := x.uniq dv
          omega
      · obtain ⟨p, dp, e⟩ := dv.pred
        exact (ho v).mpr ⟨p, (h.r p).mpr dp, e⟩
  refine ⟨fun v d => ?_, fun v => ?_, c⟩
  · rw [a v]
    by_cases hv : g v = none ∧ v ∈ os
    · rw [if_pos hv]
      have dv := (new v).mp hv
      constructor
      · intro e; cases e; exact ⟨dv, Nat.le_refl _⟩
      · rintro ⟨x, _⟩; rw [x.uniq dv]
    · rw [if_neg hv, h.g v d]
      constructor
      · rintro ⟨x, y⟩; exact ⟨x, by omega⟩
      · rintro ⟨x, y⟩
        refine ⟨x, ?_⟩
        by_cases z : d = k + 1
        · subst z; exact absurd ((new v).mpr x) hv
        · omega
  · rw [b v, new v]; simp
theorem Lev.last {L : Es} {u k : Nat} {g : Nat → Option Nat} (h : Lev L u k g []) (v : Nat) (d : Nat) : g v = some d ↔ Dist L u v d := by
  rw [h.g v d]
  constructor
  · exact fun x => x.1
  · intro a
    refine ⟨a, ?_⟩
    -- were d greater, some place of distance k would be
    have key : ∀ (j : Nat) {w : Nat}, Dist L u w (k + j) → ∃ x, Dist L u x k := by
      intro j
      induction j with
      | zero => intro w b; exact ⟨w, b⟩
      | succ j ih =>
        intro w b
        obtain ⟨x, c, _⟩ := (show Dist L u w ((k + j) + 1) from b).pred
        exact ih c
    by_cases hd : d ≤ k
    · exact hd
    · obtain ⟨x, c⟩ := key (d - k) (w := v) (by rw [show k + (d - k) = d by omega]; exact a)
      have := (h.r x).mpr c
      cases this
theorem Lev.lt {L : Es} {n u k : Nat} {g : Nat → Option Nat} {row : List Nat} (h : Lev L u k g row) (hw : Within L n) (hu : u < n) (hr : row ≠ []) : k < n := by
  cases row with
  | nil => exact absurd rfl hr
  | cons v row => exact ((h.r v).mp List.mem_cons_self).lt hw hu
theorem Lev.len {L : Es} {n u k : Nat} {g : Nat → Option Nat} {row : List Nat} (h : Lev L u k g row) (hw : Within L n) (hu : u < n) : row.length ≤ n := by
  have := nodup_le row (List.range n) h.nd fun x hx => List.mem_range.mpr (((h.r x).mp hx).w.lt hw hu)
  rwa [List.length_range] at this
/-! ### through all places in turn -/
inductive WkB (L : Es) (m u : Nat) : Nat → Nat → Prop
  | nil : WkB L m u 0 u
  | one {v : Nat} : Adj L u v → WkB L m u 1 v
  | snoc {k v w : Nat} : WkB L m u k v → v < m → Adj L v w → WkB L m u (k + 1) w
theorem WkB.part {L : Es} {m u k w : Nat} (h : WkB L (m + 1) u k w) : WkB L m u k w ∨ ∃ a b, a + b ≤ k ∧ WkB L m u a m ∧ WkB L m m b w := by
  induction h with
  | nil => exact .inl .nil
  | one e => exact .inl (.one e)
  | @snoc k v w _ hv e ih =>
    by_cases q : v = m
    · subst q
      rcases ih with ih | ⟨a, b, hab, x, _⟩
      · exact .inr ⟨k, 1, Nat.le_refl _, ih, .one e⟩
      · exact .inr ⟨a, 1, by omega, x, .one e⟩
    · rcases ih with ih | ⟨a, b, hab, x, y⟩
      · exact .inl (.snoc ih (by omega) e)
      · exact .inr ⟨a, b + 1, by omega, x, .snoc y (by omega) e⟩
theorem Wk.b {L : Es} {n u k v : Nat} (h : Within L n) (a : Wk L u k v) : WkB L n u k v := by
  induction a with
  | nil => exact .nil
  | @snoc k v w a e ih => exact .snoc ih (h.adj e).1 e
structure Low (L : Es) (f : Nat → Nat → Nat) : Prop where
  le : ∀ i j, f i j ≤ 99
  wk : ∀ i j, f i j < 99 → Wk L i (f i j) j
def Up (L : Es) (m : Nat) (f : Nat → Nat → Nat) : Prop := ∀ i j k, WkB L m i k j → f i j ≤ k
def relax (f : Nat → Nat → Nat) (m i j : Nat) : Nat → Nat → Nat := upd2 f i j (min (min (f i j) (f i m + f m j)) 99)
theorem relax_le (f : Nat → Nat → Nat) (m i j k l : Nat) : relax f m i j k l ≤ f k l := by
  unfold relax upd2
  split
  · rename_i h; obtain ⟨rfl, rfl⟩ := h; omega
  · exact Nat.le_refl _
theorem relax_at (f : Nat → Nat → Nat) (m i j : Nat) : relax f m i j i j ≤ f i m + f m j := by
  unfold relax upd2
  rw [if_pos ⟨rfl, rfl⟩]; omega
theorem Low.relax {L : Es} {f : Nat → Nat → Nat} (h : Low L f) (m i j : Nat) : Low L (relax f m i j) := by
  refine ⟨fun k l => Nat.le_trans (relax_le ..) (h.le k l), fun k l hk => ?_⟩
  unfold Gr.relax upd2 at hk ⊢
  split at hk
  · rename_i q
    obtain ⟨rfl, rfl⟩ := q
    rw [if_pos ⟨rfl, rfl⟩]
    by_cases c : f k l ≤ f k m + f m l
    · have e : min (min (f k l) (f k m + f m l)) 99 = f k l := by have := h.le k l; omega
      rw [e] at hk ⊢; exact h.wk _ _ hk
    · have e : min (min (f k l) (f k m + f m l)) 99 = f k m + f m l := by omega
      rw [e] at hk ⊢
      exact (h.wk _ _ (by omega)).trans (h.wk _ _ (by omega))
  · rename_i q; rw [if_neg q]; exact h.wk _ _ hk
/-- within round m; those of P are done -/
structure Rnd (L : Es) (m : Nat) (f0 f : Nat → Nat → Nat) (P : Nat → Nat → Prop) : Prop where
  low : Low L f
  le : ∀ i j, f i j ≤ f0 i j
  don : ∀ i j, P i j → f i j ≤ f0 i m + f0 m j
theorem Rnd.step {L : Es} {m : Nat} {f0 f : Nat → Nat → Nat} {P P' : Nat → Nat → Prop} (h : Rnd L m f0 f P) (i j : Nat) (hP : ∀ k l, P' k l → P k l ∨ (k = i ∧ l = j)) : Rnd L m f0 (relax f m i j) P' := by
  refine ⟨h.low.relax m i j, fun k l => Nat.le_trans (relax_le ..) (h.le k l), fun k l hk => ?_⟩
  rcases hP k l hk with hk | ⟨rfl, rfl⟩
  · exact Nat.le_trans (relax_le ..) (h.don k l hk)
  · have := relax_at f m k l
    have := h.le k m
    have := h.le m l
    omega
theorem Rnd.up {L : Es} {m n : Nat} {f0 f : Nat → Nat → Nat} (hw : Within L n) (h : Rnd L m f0 f fun i j => i < n ∧ j < n) (hu : ∀ i j k, i < n → j < n → WkB L m i k j → f0 i j ≤ k) (hm : m < n) : ∀ i j k, i < n → j < n → WkB L (m + 1) i k j → f i j ≤ k := by
  intro i j k hi hj w
  rcases w.part with w | ⟨a, b, hab, x, y⟩
  · exact Nat.le_trans (h.le i j) (hu i j k hi hj w)
  · have := h.don i j ⟨hi, hj⟩
    have := hu i m a hi hm x
    have := hu m j b hm hj y
    omega
theorem Dist.exists_iff {L : Es} {u v : Nat} : (∃ k, Dist L u v k) ↔ ∃ k, Wk L u k v := ⟨fun ⟨k, a⟩ => ⟨k, a.w⟩, fun ⟨k, a⟩ => let ⟨d, _, b⟩ := a.dist; ⟨d, b⟩⟩
theorem span_end {L : Es} {n : Nat} {f : Nat → Nat → Nat} (hw : Within L n) (hn : n ≤ 99) (low : Low L f) (up : ∀ i j k, i < n → j < n → WkB L n i k j → f i j ≤ k) {i j : Nat} (hi : i < n) (hj : j < n) : f i j = dst L i j := by
  by_cases h : ∃ k, Dist L i j k
  · obtain ⟨k, a⟩ := h
    rw [dst_of a]
    have h1 := up i j k hi hj (a.w.b hw)
    have h2 := a.lt hw hi
    have h3 := a.l _ (low.wk i j (by omega))
    omega
  · have e : dst L i j = 99 := by unfold dst; rw [dif_neg h]
    rw [e]
    have := low.le i j
    by_cases q : f i j < 99
    · exact absurd (Dist.exists_iff.mpr ⟨_, low.wk i j q⟩) h
    · omega
/-- at first: 0 for the same, 1 for tied ones, 99 else -/
theorem span_start {L : Es} {f : Nat → Nat → Nat} (h0 : ∀ i, f i i = 0) (h1 : ∀ i j, i ≠ j → f i j = 1 ∧ Adj L i j ∨ f i j = 99 ∧ ¬ Adj L i j) : Low L f ∧ ∀ i j k, WkB L 0 i k j → f i j ≤ k := by
  refine ⟨⟨fun i j => ?_, fun i j h => ?_⟩, fun i j k w => ?_⟩
  · by_cases q : i = j
    · subst q; rw [h0]; omega
    · rcases h1 i j q with ⟨e, _⟩ | ⟨e, _⟩ <;> omega
  · by_cases q : i = j
    · subst q; rw [h0]; exact .nil
    · rcases h1 i j q with ⟨e, a⟩ | ⟨e, _⟩
      · rw [e]; exact .one a
      · omega
  · cases w with
    | nil => rw [h0]; exact Nat.le_refl _
    | one e =>
      by_cases q : i = j
      · subst q; rw [h0]; omega
      · rcases h1 i j q with ⟨x, _⟩ | ⟨x, y⟩
        · omega
        · exact absurd e y
    | snoc _ hv _ => omega
end Gr

set_option Elab.async false
set_option linter.all false
/-! Graphs, third part: ties put together. -/
namespace Gr
structure Bd (n : Nat) (L : Es) : Prop where
  w : Within L n
  irr : ∀ p ∈ L, p.1 ≠ p.2
  pw : L.Pairwise fun p q => p ≠ q ∧ p ≠ (q.2, q.1)
theorem Bd.nil (n : Nat) : Bd n [] := ⟨fun p h => by simp at h, fun p h => by simp at h, .nil⟩
theorem Bd.mono {n m : Nat} {L : Es} (h : Bd n L) (hm : n ≤ m) : Bd m L := ⟨fun p hp => by have := h.w p hp; omega, h.irr, h.pw⟩
theorem Bd.push {n a b : Nat} {L : Es} (h : Bd n L) (ha : a < n) (hb : b < n) (hne : a ≠ b) (h1 : (a, b) ∉ L) (h2 : (b, a) ∉ L) : Bd n (L ++ [(a, b)]) := by
  refine ⟨fun p hp => ?_, fun p hp => ?_, ?_⟩
  · rcases List.mem_append.mp hp with hp | hp
    · exact h.w p hp
    · simp at hp; subst hp; exact ⟨ha, hb⟩
  · rcases List.mem_append.mp hp with hp | hp
    · exact h.irr p hp
    · simp at hp; subst hp; exact hne
  · rw [List.pairwise_append]
    refine ⟨h.pw, by simp, fun p hp q hq => ?_⟩
    simp at hq; subst hq
    exact ⟨fun z => h1 (z ▸ hp), fun z => h2 (z ▸ hp)⟩
theorem pw_symm {p q : Nat × Nat} (h : p ≠ q ∧ p ≠ (q.2, q.1)) : q ≠ p ∧ q ≠ (p.2, p.1) := by
  refine ⟨fun e => h.1 e.symm, fun e => h.2 ?_⟩
  rw [e]
theorem Bd.perm {n : Nat} {L M : Es} (h : Bd n L) (e : L.Perm M) : Bd n M :=
  ⟨fun p hp => h.w p (e.mem_iff.mpr hp), fun p hp => h.irr p (e.mem_iff.mpr hp), (e.pairwise_iff pw_symm).mp h.pw⟩
theorem Bd.swap {n : Nat} {L : Es} {p : Nat × Nat} (h : Bd n (L ++ [p])) : Bd n (L ++ [(p.2, p.1)]) := by
  obtain ⟨w, irr, pw⟩ := h
  rw [List.pairwise_append] at pw
  refine ⟨fun q hq => ?_, fun q hq => ?_, ?_⟩
  · rcases List.mem_append.mp hq with hq | hq
    · exact w q (List.mem_append_left _ hq)
    · simp at hq; subst hq
      have := w p (by simp)
      exact ⟨this.2, this.1⟩
  · rcases List.mem_append.mp hq with hq | hq
    · exact irr q (List.mem_append_left _ hq)
    · simp at hq; subst hq
      exact fun z => irr p (by simp) z.symm
  · rw [List.pairwise_append]
    refine ⟨pw.1, by simp, fun q hq r hr => ?_⟩
    simp at hr; subst hr
    have := pw.2.2 q hq p (by simp)
    exact ⟨this.2, fun z => this.1 (by rw [z])⟩
def SameAdj (L M : Es) : Prop := ∀ u v, Adj L u v ↔ Adj M u v
theorem SameAdj.refl (L : Es) : SameAdj L L := fun _ _ => Iff.rfl
theorem SameAdj.trans {L M N : Es} (h : SameAdj L M) (k : SameAdj M N) : SameAdj L N := fun u v => (h u v).trans (k u v)
theorem SameAdj.perm {L M : Es} (e : L.Perm M) : SameAdj L M := fun u v => by unfold Adj; rw [e.mem_iff, e.mem_iff]
theorem SameAdj.swap {L : Es} {p : Nat × Nat} : SameAdj (L ++ [p]) (L ++ [(p.2, p.1)]) := fun u v => by
  unfold Adj
  obtain ⟨a, b⟩ := p
  simp only [List.mem_append, List.mem_singleton, Prod.mk.injEq]
  constructor
  · rintro ((h | ⟨rfl, rfl⟩) | (h | ⟨rfl, rfl⟩))
    · exact .inl (.inl h)
    · exact .inr (.inr ⟨rfl, rfl⟩)
    · exact .inr (.inl h)
    · exact .inl (.inr ⟨rfl, rfl⟩)
  · rintro ((h | ⟨rfl, rfl⟩) | (h | ⟨rfl, rfl⟩))
    · exact .inl (.inl h)
    · exact .inr (.inr ⟨rfl, rfl⟩)
    · exact .inr (.inl h)
    · exact .inl (.inr ⟨rfl, rfl⟩)
theorem Hang.same {L M : Es} {n : Nat} (h : Hang L n) (e : SameAdj L M) : Hang M n := fun v hv => by
  obtain ⟨k, w⟩ := h v hv
  exact ⟨k, w.mono fun u v a => (e u v).mp a⟩
theorem Adj.more {L M : Es} {u v : Nat} (h : Adj L u v) : Adj (L ++ M) u v := h.elim (fun h => .inl (List.mem_append_left _ h)) fun h => .inr (List.mem_append_left _ h)
theorem Hang.more {L M : Es} {n : Nat} (h : Hang L n) : Hang (L ++ M) n := fun v hv => by
  obtain ⟨k, w⟩ := h v hv
  exact ⟨k, w.mono fun u v a => a.more⟩
theorem Hang.one (L : Es) : Hang L 1 := fun v hv => by
  have : v = 0 := by omega
  subst this
  exact ⟨0, .nil⟩
theorem Hang.grow {L : Es} {n r : Nat} (h : Hang L n) (hr : r < n) : Hang (L ++ [(n, r)]) (n + 1) := fun v hv => by
  by_cases q : v < n
  · exact h.more v q
  · have : v = n := by omega
    subst this
    obtain ⟨k, w⟩ := h.more (M := [(v, r)]) r hr
    exact ⟨k + 1, w.snoc (.inr (by simp))⟩
/-- the neighbours, in order -/
def nbr (L : Es) (i : Nat) : List Nat := L.flatMap fun p => (if p.1 = i then [p.2] else []) ++ (if p.2 = i then [p.1] else [])
theorem mem_nbr {L : Es} {i j : Nat} : j ∈ nbr L i ↔ Adj L i j := by
  unfold nbr Adj
  rw [List.mem_flatMap]
  constructor
  · rintro ⟨⟨a, b⟩, hp, hj⟩
    rcases List.mem_append.mp hj with hj | hj
    · split at hj
      · rename_i e
        simp at hj e; subst hj e
        exact .inl hp
      · cases hj
    · split at hj
      · rename_i e
        simp at hj e; subst hj e
        exact .inr hp
      · cases hj
  · rintro (h | h)
    · exact ⟨_, h, by simp⟩
    · exact ⟨_, h, by simp⟩
theorem nbr_append (L M : Es) (i : Nat) : nbr (L ++ M) i = nbr L i ++ nbr M i := by unfold nbr; rw [List.flatMap_append]
theorem nbr_one (a b i : Nat) : nbr [(a, b)] i = (if a = i then [b] else []) ++ (if b = i then [a] else []) := by simp [nbr]
end Gr

set_option Elab.async false
set_option linter.all false
set_option maxRecDepth 100000
set_option maxHeartbeats 2000000
/-! Arrays as functions. -/
namespace MA
open PySem PySem.Spec PyProof.Rows L2 He DL DM Gr
section
variable {α β : Type} {n i j : Nat} {g h : Nat → α}
theorem arr_len : (arr n g).length = n := by simp [arr]
theorem arr_get (hi : i < n) : (arr n g)[i]? = some (g i) := by simp [arr, hi]
theorem arr_map (f : α → β) : (arr n g).map f = arr n fun i => f (g i) := by simp [arr]
theorem arr_succ : arr (n + 1) g = arr n g ++ [g n] := by simp [arr, List.range_succ]
theorem arr_congr (e : ∀ i, i < n → g i = h i) : arr n g = arr n h := List.map_congr_left fun i hi => e i (List.mem_range.mp hi)
theorem arr_ext {xs : List α} (hl : xs.length = n) (e : ∀ i, i < n → xs[i]? = some (g i)) : xs = arr n g := by
  apply List.ext_getElem?
  intro i
  by_cases hi : i < n
  · rw [e i hi, arr_get hi]
  · rw [List.getElem?_eq_none (by omega), List.getElem?_eq_none (by rw [arr_len]; omega)]
theorem arr_set (x : α) : (arr n g).set i x = arr n (upd1 g i x) := by
  apply arr_ext
  · rw [List.length_set, arr_len]
  · intro j hj
    rw [List.getElem?_set]
    by_cases e : i = j
    · subst e; rw [if_pos rfl, arr_len, if_pos hj, upd1_same]
    · rw [if_neg e, arr_get hj, upd1_ne _ _ (fun z => e z.symm)]
theorem arr_mem {x : α} : x ∈ arr n g ↔ ∃ i, i < n ∧ g i = x := by simp [arr]
theorem arr_take (h : j ≤ n) : (arr n g).take j = arr j g := by
  apply arr_ext
  · rw [List.length_take, arr_len]; omega
  · intro i hi; rw [List.getElem?_take, if_pos hi, arr_get (by omega)]
theorem arr_of (d : α) (xs : List α) : xs = arr xs.length fun i => xs.getD i d := arr_ext rfl fun i hi => by
  rw [List.getElem?_eq_getElem hi, List.getD_eq_getElem?_getD, List.getElem?_eq_getElem hi]; rfl
theorem arr_zero : arr 0 g = [] := rfl
theorem arr_range {f : Nat → α} : (List.range n).map f = arr n f := rfl
end
theorem ix_arrT {n i : Nat} {g : Nat → D} (h : i < n) : ixD (.tup (arr n g)) (.int (i : Int)) = .ok (g i) := o_ixT (arr_get h)
theorem ix_arrL {n i : Nat} {g : Nat → D} (h : i < n) : ixD (.lst (arr n g)) (.int (i : Int)) = .ok (g i) := o_ixL (arr_get h)
theorem numbered_arr : ∀ (n k : Nat) (g : Nat → D), DL.numbered k (arr n g) = arr n fun i => .tup [.int ((k + i : Nat) : Int), g i] := by
  have key : ∀ (xs : List D) (k : Nat), DL.numbered k xs = arr xs.length fun i => .tup [.int ((k + i : Nat) : Int), xs.getD i .non] := by
    intro xs
    induction xs with
    | nil => intro k; rfl
    | cons x xs ih =>
      intro k
      unfold DL.numbered
      rw [ih (k + 1)]
      apply arr_ext
      · simp [arr_len]
      · intro i hi
        cases i with
        | zero => simp
        | succ i =>
          rw [List.getElem?_cons_succ, arr_get (by simpa using hi)]
          rw [List.getD_cons_succ, show k + 1 + i = k + (i + 1) by omega]
  intro n k g
  rw [key, arr_len]
  refine arr_congr fun i hi => ?_
  rw [List.getD_eq_getElem?_getD, arr_get hi]; rfl
theorem sIx_nat {n k d : Nat} (h : k ≤ n) : HT.sIx n d (some (k : Int)) = k := by
  unfold HT.sIx
  have : ¬ (k : Int) < 0 := by omega
  simp [this]
  omega
theorem sl_arrT {n k : Nat} {g : Nat → D} (h : k ≤ n) : slD (.tup (arr n g)) none (some (k : Int)) = .ok (.tup (arr k g)) := by
  show R.ok (D.tup (DL.cutD (arr n g) none (some (k : Int)))) = _
  unfold DL.cutD
  rw [arr_len, sIx_nat h]
  have : HT.sIx n 0 none = 0 := rfl
  rw [this, List.drop_zero, Nat.sub_zero, arr_take h]
theorem sl_arrL {n k : Nat} {g : Nat → D} (h : k ≤ n) : slD (.lst (arr n g)) none (some (k : Int)) = .ok (.lst (arr k g)) := by
  show R.ok (D.lst (DL.cutD (arr n g) none (some (k : Int)))) = _
  unfold DL.cutD
  rw [arr_len, sIx_nat h]
  have : HT.sIx n 0 none = 0 := rfl
  rw [this, List.drop_zero, Nat.sub_zero, arr_take h]
theorem sl_take {k : Nat} {xs : List D} (h : k ≤ xs.length) : slD (.tup xs) none (some (k : Int)) = .ok (.tup (xs.take k)) := by
  show R.ok (D.tup (DL.cutD xs none (some (k : Int)))) = _
  unfold DL.cutD
  rw [sIx_nat h]
  have : HT.sIx xs.length 0 none = 0 := rfl
  rw [this, List.drop_zero, Nat.sub_zero]
theorem numbered_of (k : Nat) (xs : List D) : DL.numbered k xs = arr xs.length fun i => .tup [.int ((k + i : Nat) : Int), xs.getD i .non] := by
  conv => lhs; rw [arr_of .non xs]
  rw [numbered_arr]
/-! ### truths -/
def orK : D → R D → R D
  | .bl true, _ => .ok (.bl true)
  | .bl false, r => r
  | _, _ => .st
def andK : D → R D → R D
  | .bl true, r => r
  | .bl false, _ => .ok (.bl false)
  | _, _ => .st
section
variable {ρ : List Sl} {f g : List Sl → R D} {r : R D} {b c : Bool} {x y : Int}
theorem v_pOrK : pOr f g ρ = (f ρ).bind fun x => orK x (g ρ) := by
  unfold pOr
  congr 1; funext x
  cases x with
  | bl b => cases b <;> rfl
  | _ => rfl
theorem v_pAndK : pAnd f g ρ = (f ρ).bind fun x => andK x (g ρ) := by
  unfold pAnd
  congr 1; funext x
  cases x with
  | bl b => cases b <;> rfl
  | _ => rfl
theorem o_or1 : orK (.bl true) r = .ok (.bl true) := rfl
theorem o_or2 : orK (.bl false) r = r := rfl
theorem o_or3 : orK (.bl b) (.ok (.bl c)) = .ok (.bl (b || c)) := by cases b <;> rfl
theorem o_and1 : andK (.bl true) r = r := rfl
theorem o_and2 : andK (.bl false) r = .ok (.bl false) := rfl
theorem o_and3 : andK (.bl b) (.ok (.bl c)) = .ok (.bl (b && c)) := by cases b <;> rfl
theorem o_eqI : eqD (.int x) (.int y) = .ok (.bl (decide (x = y))) := by
  rw [o_eq (sd_int _) (sd_int _) (by omega) (by omega)]
  rfl
theorem o_neI : neD (.int x) (.int y) = .ok (.bl (!decide (x = y))) := by
  rw [o_ne (sd_int _) (sd_int _) (by omega) (by omega)]
  rfl
theorem o_eqB : eqD (.bl b) (.bl c) = .ok (.bl (b == c)) := by
  rw [o_eq (sd_bl _) (sd_bl _) (by omega) (by omega)]
  cases b <;> cases c <;> rfl
theorem eqD_eq {a b : D} {i j : Nat} (ha : Sd i a) (hb : Sd j b) (hi : i ≤ 64) (hj : j ≤ 64) {c : Bool} (h : PyData.eqv a.py b.py = c) : eqD a b = .ok (.bl c) := by rw [o_eq ha hb hi hj, h]
theorem neD_eq {a b : D} {i j : Nat} (ha : Sd i a) (hb : Sd j b) (hi : i ≤ 64) (hj : j ≤ 64) {c : Bool} (h : PyData.eqv a.py b.py = c) : neD a b = .ok (.bl !c) := by rw [o_ne ha hb hi hj, h]
end
theorem ne_tup0 : neD (.tup []) (.tup []) = .ok (.bl false) := neD_eq (sd_tup (k := 0) (by simp)) (sd_tup (k := 0) (by simp)) (by omega) (by omega) (c := true) rfl
theorem ne_lst0 : neD (.lst []) (.lst []) = .ok (.bl false) := neD_eq (sd_lst (k := 0) (by simp)) (sd_lst (k := 0) (by simp)) (by omega) (by omega) (c := true) rfl
theorem ne_lstc {k : Nat} {x : D} {xs : List D} (h : ∀ y ∈ x :: xs, Sd k y) (hk : k ≤ 60) : neD (.lst (x :: xs)) (.lst []) = .ok (.bl true) := neD_eq (sd_lst h) (sd_lst (k := 0) (by simp)) (by omega) (by omega) (c := false) (by
  simp [D.py, pyA, PyData.eqv, PyData.eqvAll])
end MA

set_option Elab.async false
set_option linter.all false
set_option maxRecDepth 100000
set_option maxHeartbeats 2000000
/-! Webs: what the program makes of right towns and ties. -/
namespace MA
open PySem PySem.Spec PyProof.Rows L2 He DL DM Gr
structure Nms (n : Nat) (nm : Nat → Str) : Prop where
  inj : ∀ i j, i < n → j < n → nm i = nm j → i = j
  fine : ∀ i, i < n → PyData.canLay0 (.str (nm i)) = true
  name : ∀ i, i < n → callV F_is_name [.str (nm i)] = .ok (.bl true)
  lo : 1 ≤ n
  hi : n ≤ 14
  sz : ∀ i, i < n → (nm i).cps.size ≤ 8
structure Tis (n : Nat) (L : Es) : Prop where
  w : Within L n
  irr : ∀ p ∈ L, p.1 ≠ p.2
  pw : L.Pairwise fun p q => p ≠ q ∧ p ≠ (q.2, q.1)
  len : L.length ≤ 60
def twA (n : Nat) (nm : Nat → Str) : List D := arr n fun i => .str (nm i)
def twD (n : Nat) (nm : Nat → Str) : D := .tup (twA n nm)
def tieD (nm : Nat → Str) (p : Nat × Nat) : D := .tup [.str (nm p.1), .str (nm p.2)]
def tiA (nm : Nat → Str) (L : Es) : List D := L.map (tieD nm)
def tiD (nm : Nat → Str) (L : Es) : D := .tup (tiA nm L)
section
variable {n : Nat} {nm : Nat → Str} {L M : Es} (N : Nms n nm)
include N
theorem Nms.sd {i : Nat} (h : i < n) : Sd 0 (.str (nm i)) := sd_str (N.fine i h)
theorem Nms.sdA {k : Nat} (h : k ≤ n) : Sd 1 (.tup (twA k nm)) := sd_tup fun x hx => by
  obtain ⟨i, hi, rfl⟩ := arr_mem.mp hx
  exact N.sd (by omega)
theorem Nms.any {k i : Nat} (hk : k ≤ n) (hi : i < n) : ((twA k nm).any fun z => PyData.eqv z.py (D.str (nm i)).py) = decide (i < k) := by
  rw [Bool.eq_iff_iff, List.any_eq_true, decide_eq_true_eq]
  constructor
  · rintro ⟨z, hz, e⟩
    obtain ⟨j, hj, rfl⟩ := arr_mem.mp hz
    rw [eqv_str, beq_iff_eq] at e
    have := N.inj j i (by omega) hi e
    omega
  · intro h
    exact ⟨.str (nm i), arr_mem.mpr ⟨i, h, rfl⟩, by rw [eqv_str]; exact beq_self_eq_true _⟩
theorem Nms.in_ {k i : Nat} (hk : k ≤ n) (hi : i < n) : inD (.str (nm i)) (.tup (twA k nm)) = .ok (.bl (decide (i < k))) := by
  rw [o_inT (N.sd hi) (N.sdA hk) (by omega) (by omega), N.any hk hi]
theorem Nms.nin {k i : Nat} (hk : k ≤ n) (hi : i < n) : ninD (.str (nm i)) (.tup (twA k nm)) = .ok (.bl (!decide (i < k))) := by
  rw [o_ninT (N.sd hi) (N.sdA hk) (by omega) (by omega), N.any hk hi]
theorem Nms.eq {i j : Nat} (hi : i < n) (hj : j < n) : eqD (.str (nm i)) (.str (nm j)) = .ok (.bl (decide (i = j))) := by
  rw [o_eq (N.sd hi) (N.sd hj) (by omega) (by omega), eqv_str]
  congr 2
  rw [Bool.eq_iff_iff, beq_iff_eq, decide_eq_true_eq]
  exact ⟨N.inj i j hi hj, fun h => by rw [h]⟩
theorem Nms.ne {i j : Nat} (hi : i < n) (hj : j < n) : neD (.str (nm i)) (.str (nm j)) = .ok (.bl (!decide (i = j))) := by
  rw [o_ne (N.sd hi) (N.sd hj) (by omega) (by omega), eqv_str]
  congr 3
  rw [Bool.eq_iff_iff, beq_iff_eq, decide_eq_true_eq]
  exact ⟨N.inj i j hi hj, fun h => by rw [h]⟩
theorem Nms.ix {i : Nat} (hi : i < n) : indexD (twD n nm) (.str (nm i)) = .ok (.int (i : Nat)) := by
  have h1 : strsO (twA n nm) = some (arr n nm) := by
    have := DL.strs_map (arr n nm)
    rwa [arr_map] at this
  have h2 : strIx (arr n nm) (nm i) = some i := by
    unfold strIx
    rw [List.findIdx?_eq_some_iff_getElem]
    refine ⟨by rw [arr_len]; exact hi, ?_, fun j hj => ?_⟩
    · have := arr_get (g := nm) hi
      rw [List.getElem?_eq_some_iff] at this
      obtain ⟨_, e⟩ := this
      rw [e]; exact beq_self_eq_true _
    · have := arr_get (g := nm) (show j < n by omega)
      rw [List.getElem?_eq_some_iff] at this
      obtain ⟨_, e⟩ := this
      rw [e]
      intro z
      have := N.inj j i (by omega) hi (beq_iff_eq.mp z)
      omega
  unfold indexD twD
  dsimp only
  rw [h1]
  dsimp only
  rw [h2]
theorem Nms.kind : ixKind (twD n nm) = true := by
  have h1 : strsO (twA n nm) = some (arr n nm) := by
    have := DL.strs_map (arr n nm)
    rwa [arr_map] at this
  unfold ixKind twD
  dsimp only
  rw [h1]; rfl
theorem Nms.sdT {p : Nat × Nat} (h1 : p.1 < n) (h2 : p.2 < n) : Sd 1 (tieD nm p) := sd_tup fun x hx => by
  simp at hx
  rcases hx with rfl | rfl
  · exact N.sd h1
  · exact N.sd h2
theorem Nms.sdTs (h : Within M n) : Sd 2 (.tup (tiA nm M)) := sd_tup fun x hx => by
  obtain ⟨p, hp, rfl⟩ := List.mem_map.mp hx
  exact N.sdT (h p hp).1 (h p hp).2
theorem Nms.sdTl (h : Within M n) : Sd 2 (.lst (tiA nm M)) := sd_lst fun x hx => by
  obtain ⟨p, hp, rfl⟩ := List.mem_map.mp hx
  exact N.sdT (h p hp).1 (h p hp).2
theorem Nms.eqT {p q : Nat × Nat} (hp1 : p.1 < n) (hp2 : p.2 < n) (hq1 : q.1 < n) (hq2 : q.2 < n) : PyData.eqv (tieD nm p).py (tieD nm q).py = true ↔ p = q := by
  show PyData.eqv (pr (nm p.1, nm p.2)).py (pr (nm q.1, nm q.2)).py = true ↔ _
  rw [eqv_pr_iff]
  constructor
  · intro e
    injection e with e1 e2
    exact Prod.ext (N.inj _ _ hp1 hq1 e1) (N.inj _ _ hp2 hq2 e2)
  · rintro rfl; rfl
theorem Nms.anyT {p : Nat × Nat} (h : Within M n) (h1 : p.1 < n) (h2 : p.2 < n) : ((tiA nm M).any fun z => PyData.eqv z.py (tieD nm p).py) = decide (p ∈ M) := by
  rw [Bool.eq_iff_iff, List.any_eq_true, decide_eq_true_eq]
  constructor
  · rintro ⟨z, hz, e⟩
    obtain ⟨q, hq, rfl⟩ := List.mem_map.mp hz
    rw [(N.eqT (h q hq).1 (h q hq).2 h1 h2).mp e] at hq
    exact hq
  · intro hp
    exact ⟨tieD nm p, List.mem_map.mpr ⟨p, hp, rfl⟩, (N.eqT h1 h2 h1 h2).mpr rfl⟩
theorem Nms.inTs {a b : Nat} (h : Within M n) (h1 : a < n) (h2 : b < n) : inD (.tup [.str (nm a), .str (nm b)]) (.tup (tiA nm M)) = .ok (.bl (decide ((a, b) ∈ M))) := by
  show inD (tieD nm (a, b)) (.tup (tiA nm M)) = _
  rw [o_inT (N.sdT (p := (a, b)) h1 h2) (N.sdTs h) (by omega) (by omega), N.anyT (p := (a, b)) h h1 h2]
theorem Nms.ninTl {a b : Nat} (h : Within M n) (h1 : a < n) (h2 : b < n) : ninD (.tup [.str (nm a), .str (nm b)]) (.lst (tiA nm M)) = .ok (.bl (!decide ((a, b) ∈ M))) := by
  show ninD (tieD nm (a, b)) (.lst (tiA nm M)) = _
  rw [o_ninL (N.sdT (p := (a, b)) h1 h2) (N.sdTl h) (by omega) (by omega), N.anyT (p := (a, b)) h h1 h2]
theorem wrong_town_c : callV F_wrong_town [twD n nm] = .ok (.tup []) := by
  refine cv_rt ?_
  have hn := N.lo
  have hh := N.hi
  have e1 : ¬ (n : Int) = 0 := by omega
  have hl : (twA n nm).length = n := arr_len
  have hk : ("tuple" == "tuple") = true := rfl
  show Wp (m_wrong_town [.val (twD n nm), .un, .un]) _
  unfold m_wrong_town twD
  simp -implicitDefEqProofs only [v_pVar', v_pVarQ', v_pVarR', k_v, k_vq, k_vr, k_oq, k_or, k_or2, k_vVal, k_vFr, k_par, k_set, k_aug, k_own, k_retF, k_ix, k_ix2, k_ixL, oR_s, k_app2, k_app, k_pop3, k_pop2, k_pop, k_apL2, k_apL1, k_apL, k_cal, k_calR, k_calO, k_ch1, k_ch2, k_lst, k_fldV, k_fldO, v_setF, v_pC, v_p1, v_p2, v_p3, v_aNil, v_aCons, v_pA, v_b1, v_asB, v_bAnd, v_bOr, v_bNot, v_pIf, v_pAndK, v_pOrK, v_liftE, v_e1, v_e2, v_bNil, v_bCons, v_eA, v_vNil, v_vVal, v_vFr, v_liftB, v_q1, v_qAnd, v_qOr, v_qNot, v_eIf, v_gVar, v_gTupD, v_gsNil, v_gsCons, v_pIxLL, v_gIx, v_gIx2, v_sNext, v_sNever, v_sRetN, v_sRet, v_sRetE, v_sRetF, v_sExpr, v_sExprE, v_sIf, v_sIfE, v_seq, v_asg, v_asgE, v_own, v_ownG, v_par, v_aug, v_putNil, v_putV, v_putF, v_iAdd, v_pSl, v_oNone, v_oSome, v_eApp, v_ePop, v_eAppLL, v_eCallO, v_callO, v_i1, v_pM1, v_pChain, v_pIndex, v_aLen, v_aApp, v_pFrz, v_pAO, v_gLst, v_frz0, v_frz0l, v_frzO, v_frz1, v_frzV, v_frzU, R.bind_ok, RE.bind_ok, RE.seq_ok, R.seq_ok, R.seqB_ok, RE.bindA_ok, RA.bind_ok, RA.bindE_ok, RV.bind_ok, RB.bind_ok, RB.bindE_ok, RB.seq_ok, RE.bindB_ok, upB_ok, up_ok, RS.then_nx, RS.then_rt, RS.then_rtO, RS.then_ct, RS.then_bk, o_eqI, o_neI, o_eqB, o_or1, o_or2, o_or3, o_and1, o_and2, o_and3, Int.cast_ofNat_Int, Int.reduceEq, Int.reduceLT, Int.reduceLE, Int.reduceAdd, Int.reduceSub, Int.reduceMul, Int.reduceNeg, o_add, o_sub, o_lt, o_le, o_gt, o_ge, o_int, o_abs, o_lenL, o_lenT, o_lenS, o_isN, o_isnN, n_non, n_int, n_str, n_bl, n_tup, n_lst, n_ins, o_mkT0, o_mkT1, o_mkT2, o_mkT3, o_mkL0, o_mkL1, o_mkL2, o_mkL3, o_maxD, o_minD, o_revT, o_revL, o_ixT0, o_ixT1, o_ixT2, o_isL, o_tupL, o_tupT, o_not, o_neg, ok_match, ok_match2, kt_int, kt_str, kt_bl, kt_tup, kt_lst, kt_non, kt_some, i_enumT, i_enumL, i_lst, i_tup, i_scr, List.getElem?_cons_zero, List.getElem?_cons_succ, List.set_cons_zero, List.set_cons_succ, List.length_cons, List.length_nil, List.length_set, List.map_cons, List.map_nil, List.cons_append, List.nil_append, List.append_nil, Option.bind_some, Option.map_some, Nat.reduceAdd, Nat.reduceLT, Nat.reduceSucc, Nat.zero_lt_succ, Nat.lt_add_left_iff_pos, eq_self, and_self, true_and, and_true, if_true_, if_false_, Int.toNat_natCast, ite_true, ite_false, Bool.not_true, Bool.not_false, Bool.false_eq_true, decide_true, decide_false, wpO_some, turn_nx, turn_ct, turn_bk, reduceCtorEq, Nat.succ_pos, Nat.succ_lt_succ_iff, hl, e1, hk]
  refine wp_range (fun k ρ => ∃ s1 s2, ρ = [.val (.tup (twA n nm)), s1, s2]) n (enc := fun i : Nat => .tup [.int (i : Int), .str (nm i)]) ?_ ⟨_, _, rfl⟩ ?_ ?_
  · unfold twA
    simp -implicitDefEqProofs only [v_pVar', v_pVarQ', v_pVarR', k_v, k_vq, k_vr, k_oq, k_or, k_or2, k_vVal, k_vFr, k_par, k_set, k_aug, k_own, k_retF, k_ix, k_ix2, k_ixL, oR_s, k_app2, k_app, k_pop3, k_pop2, k_pop, k_apL2, k_apL1, k_apL, k_cal, k_calR, k_calO, k_ch1, k_ch2, k_lst, k_fldV, k_fldO, v_setF, v_pC, v_p1, v_p2, v_p3, v_aNil, v_aCons, v_pA, v_b1, v_asB, v_bAnd, v_bOr, v_bNot, v_pIf, v_pAndK, v_pOrK, v_liftE, v_e1, v_e2, v_bNil, v_bCons, v_eA, v_vNil, v_vVal, v_vFr, v_liftB, v_q1, v_qAnd, v_qOr, v_qNot, v_eIf, v_gVar, v_gTupD, v_gsNil, v_gsCons, v_pIxLL, v_gIx, v_gIx2, v_sNext, v_sNever, v_sRetN, v_sRet, v_sRetE, v_sRetF, v_sExpr, v_sExprE, v_sIf, v_sIfE, v_seq, v_asg, v_asgE, v_own, v_ownG, v_par, v_aug, v_putNil, v_putV, v_putF, v_iAdd, v_pSl, v_oNone, v_oSome, v_eApp, v_ePop, v_eAppLL, v_eCallO, v_callO, v_i1, v_pM1, v_pChain, v_pIndex, v_aLen, v_aApp, v_pFrz, v_pAO, v_gLst, v_frz0, v_frz0l, v_frzO, v_frz1, v_frzV, v_frzU, R.bind_ok, RE.bind_ok, RE.seq_ok, R.seq_ok, R.seqB_ok, RE.bindA_ok, RA.bind_ok, RA.bindE_ok, RV.bind_ok, RB.bind_ok, RB.bindE_ok, RB.seq_ok, RE.bindB_ok, upB_ok, up_ok, RS.then_nx, RS.then_rt, RS.then_rtO, RS.then_ct, RS.then_bk, o_eqI, o_neI, o_eqB, o_or1, o_or2, o_or3, o_and1, o_and2, o_and3, Int.cast_ofNat_Int, Int.reduceEq, Int.reduceLT, Int.reduceLE, Int.reduceAdd, Int.reduceSub, Int.reduceMul, Int.reduceNeg, o_add, o_sub, o_lt, o_le, o_gt, o_ge, o_int, o_abs, o_lenL, o_lenT, o_lenS, o_isN, o_isnN, n_non, n_int, n_str, n_bl, n_tup, n_lst, n_ins, o_mkT0, o_mkT1, o_mkT2, o_mkT3, o_mkL0, o_mkL1, o_mkL2, o_mkL3, o_maxD, o_minD, o_revT, o_revL, o_ixT0, o_ixT1, o_ixT2, o_isL, o_tupL, o_tupT, o_not, o_neg, ok_match, ok_match2, kt_int, kt_str, kt_bl, kt_tup, kt_lst, kt_non, kt_some, i_enumT, i_enumL, i_lst, i_tup, i_scr, List.getElem?_cons_zero, List.getElem?_cons_succ, List.set_cons_zero, List.set_cons_succ, List.length_cons, List.length_nil, List.length_set, List.map_cons, List.map_nil, List.cons_append, List.nil_append, List.append_nil, Option.bind_some, Option.map_some, Nat.reduceAdd, Nat.reduceLT, Nat.reduceSucc, Nat.zero_lt_succ, Nat.lt_add_left_iff_pos, eq_self, and_self, true_and, and_true, if_true_, if_false_, Int.toNat_natCast, ite_true, ite_false, Bool.not_true, Bool.not_false, Bool.false_eq_true, decide_true, decide_false, wpO_some, turn_nx, turn_ct, turn_bk, reduceCtorEq, Nat.succ_pos, Nat.succ_lt_succ_iff, numbered_arr, Nat.zero_add]
  · rintro j _ hj ⟨s1, s2, rfl⟩
    have a1 := N.name j hj
    have a2 := sl_arrT (g := fun i => D.str (nm i)) (show j ≤ n by omega)
    have a3 := N.in_ (k := j) (by omega) hj
    have a4 : ¬ (14 : Int) ≤ (j : Int) := by omega
    have a5 : ¬ j < j := by omega
    unfold twA at *
    simp -implicitDefEqProofs only [v_pVar', v_pVarQ', v_pVarR', k_v, k_vq, k_vr, k_oq, k_or, k_or2, k_vVal, k_vFr, k_par, k_set, k_aug, k_own, k_retF, k_ix, k_ix2, k_ixL, oR_s, k_app2, k_app, k_pop3, k_pop2, k_pop, k_apL2, k_apL1, k_apL, k_cal, k_calR, k_calO, k_ch1, k_ch2, k_lst, k_fldV, k_fldO, v_setF, v_pC, v_p1, v_p2, v_p3, v_aNil, v_aCons, v_pA, v_b1, v_asB, v_bAnd, v_bOr, v_bNot, v_pIf, v_pAndK, v_pOrK, v_liftE, v_e1, v_e2, v_bNil, v_bCons, v_eA, v_vNil, v_vVal, v_vFr, v_liftB, v_q1, v_qAnd, v_qOr, v_qNot, v_eIf, v_gVar, v_gTupD, v_gsNil, v_gsCons, v_pIxLL, v_gIx, v_gIx2, v_sNext, v_sNever, v_sRetN, v_sRet, v_sRetE, v_sRetF, v_sExpr, v_sExprE, v_sIf, v_sIfE, v_seq, v_asg, v_asgE, v_own, v_ownG, v_par, v_aug, v_putNil, v_putV, v_putF, v_iAdd, v_pSl, v_oNone, v_oSome, v_eApp, v_ePop, v_eAppLL, v_eCallO, v_callO, v_i1, v_pM1, v_pChain, v_pIndex, v_aLen, v_aApp, v_pFrz, v_pAO, v_gLst, v_frz0, v_frz0l, v_frzO, v_frz1, v_frzV, v_frzU, R.bind_ok, RE.bind_ok, RE.seq_ok, R.seq_ok, R.seqB_ok, RE.bindA_ok, RA.bind_ok, RA.bindE_ok, RV.bind_ok, RB.bind_ok, RB.bindE_ok, RB.seq_ok, RE.bindB_ok, upB_ok, up_ok, RS.then_nx, RS.then_rt, RS.then_rtO, RS.then_ct, RS.then_bk, o_eqI, o_neI, o_eqB, o_or1, o_or2, o_or3, o_and1, o_and2, o_and3, Int.cast_ofNat_Int, Int.reduceEq, Int.reduceLT, Int.reduceLE, Int.reduceAdd, Int.reduceSub, Int.reduceMul, Int.reduceNeg, o_add, o_sub, o_lt, o_le, o_gt, o_ge, o_int, o_abs, o_lenL, o_lenT, o_lenS, o_isN, o_isnN, n_non, n_int, n_str, n_bl, n_tup, n_lst, n_ins, o_mkT0, o_mkT1, o_mkT2, o_mkT3, o_mkL0, o_mkL1, o_mkL2, o_mkL3, o_maxD, o_minD, o_revT, o_revL, o_ixT0, o_ixT1, o_ixT2, o_isL, o_tupL, o_tupT, o_not, o_neg, ok_match, ok_match2, kt_int, kt_str, kt_bl, kt_tup, kt_lst, kt_non, kt_some, i_enumT, i_enumL, i_lst, i_tup, i_scr, List.getElem?_cons_zero, List.getElem?_cons_succ, List.set_cons_zero, List.set_cons_succ, List.length_cons, List.length_nil, List.length_set, List.map_cons, List.map_nil, List.cons_append, List.nil_append, List.append_nil, Option.bind_some, Option.map_some, Nat.reduceAdd, Nat.reduceLT, Nat.reduceSucc, Nat.zero_lt_succ, Nat.lt_add_left_iff_pos, eq_self, and_self, true_and, and_true, if_true_, if_false_, Int.toNat_natCast, ite_true, ite_false, Bool.not_true, Bool.not_false, Bool.false_eq_true, decide_true, decide_false, wpO_some, turn_nx, turn_ct, turn_bk, reduceCtorEq, Nat.succ_pos, Nat.succ_lt_succ_iff, a1, a2, a3, a4, a5]
    exact ⟨_, _, rfl⟩
  · rintro _ ⟨s1, s2, rfl⟩
    simp -implicitDefEqProofs only [v_pVar', v_pVarQ', v_pVarR', k_v, k_vq, k_vr, k_oq, k_or, k_or2, k_vVal, k_vFr, k_par, k_set, k_aug, k_own, k_retF, k_ix, k_ix2, k_ixL, oR_s, k_app2, k_app, k_pop3, k_pop2, k_pop, k_apL2, k_apL1, k_apL, k_cal, k_calR, k_calO, k_ch1, k_ch2, k_lst, k_fldV, k_fldO, v_setF, v_pC, v_p1, v_p2, v_p3, v_aNil, v_aCons, v_pA, v_b1, v_asB, v_bAnd, v_bOr, v_bNot, v_pIf, v_pAndK, v_pOrK, v_liftE, v_e1, v_e2, v_bNil, v_bCons, v_eA, v_vNil, v_vVal, v_vFr, v_liftB, v_q1, v_qAnd, v_qOr, v_qNot, v_eIf, v_gVar, v_gTupD, v_gsNil, v_gsCons, v_pIxLL, v_gIx, v_gIx2, v_sNext, v_sNever, v_sRetN, v_sRet, v_sRetE, v_sRetF, v_sExpr, v_sExprE, v_sIf, v_sIfE, v_seq, v_asg, v_asgE, v_own, v_ownG, v_par, v_aug, v_putNil, v_putV, v_putF, v_iAdd, v_pSl, v_oNone, v_oSome, v_eApp, v_ePop, v_eAppLL, v_eCallO, v_callO, v_i1, v_pM1, v_pChain, v_pIndex, v_aLen, v_aApp, v_pFrz, v_pAO, v_gLst, v_frz0, v_frz0l, v_frzO, v_frz1, v_frzV, v_frzU, R.bind_ok, RE.bind_ok, RE.seq_ok, R.seq_ok, R.seqB_ok, RE.bindA_ok, RA.bind_ok, RA.bindE_ok, RV.bind_ok, RB.bind_ok, RB.bindE_ok, RB.seq_ok, RE.bindB_ok, upB_ok, up_ok, RS.then_nx, RS.then_rt, RS.then_rtO, RS.then_ct, RS.then_bk, o_eqI, o_neI, o_eqB, o_or1, o_or2, o_or3, o_and1, o_and2, o_and3, Int.cast_ofNat_Int, Int.reduceEq, Int.reduceLT, Int.reduceLE, Int.reduceAdd, Int.reduceSub, Int.reduceMul, Int.reduceNeg, o_add, o_sub, o_lt, o_le, o_gt, o_ge, o_int, o_abs, o_lenL, o_lenT, o_lenS, o_isN, o_isnN, n_non, n_int, n_str, n_bl, n_tup, n_lst, n_ins, o_mkT0, o_mkT1, o_mkT2, o_mkT3, o_mkL0, o_mkL1, o_mkL2, o_mkL3, o_maxD, o_minD, o_revT, o_revL, o_ixT0, o_ixT1, o_ixT2, o_isL, o_tupL, o_tupT, o_not, o_neg, ok_match, ok_match2, kt_int, kt_str, kt_bl, kt_tup, kt_lst, kt_non, kt_some, i_enumT, i_enumL, i_lst, i_tup, i_scr, List.getElem?_cons_zero, List.getElem?_cons_succ, List.set_cons_zero, List.set_cons_succ, List.length_cons, List.length_nil, List.length_set, List.map_cons, List.map_nil, List.cons_append, List.nil_append, List.append_nil, Option.bind_some, Option.map_some, Nat.reduceAdd, Nat.reduceLT, Nat.reduceSucc, Nat.zero_lt_succ, Nat.lt_add_left_iff_pos, eq_self, and_self, true_and, and_true, if_true_, if_false_, Int.toNat_natCast, ite_true, ite_false, Bool.not_true, Bool.not_false, Bool.false_eq_true, decide_true, decide_false, wpO_some, turn_nx, turn_ct, turn_bk, reduceCtorEq, Nat.succ_pos, Nat.succ_lt_succ_iff]
    exact isRt_ok
theorem is_pair_c {p : Nat × Nat} (h1 : p.1 < n) (h2 : p.2 < n) : callV F_is_pair [twD n nm, tieD nm p] = .ok (.bl (!decide (p.1 = p.2))) := by
  refine cv_rt ?_
  have hk : ("tuple" == "tuple") = true := rfl
  have a1 := N.nin (Nat.le_refl n) h1
  have a2 := N.nin (Nat.le_refl n) h2
  have a3 := N.ne h1 h2
  show Wp (m_is_pair [.val (twD n nm), .val (tieD nm p)]) _
  unfold m_is_pair twD tieD
  simp -implicitDefEqProofs only [v_pVar', v_pVarQ', v_pVarR', k_v, k_vq, k_vr, k_oq, k_or, k_or2, k_vVal, k_vFr, k_par, k_set, k_aug, k_own, k_retF, k_ix, k_ix2, k_ixL, oR_s, k_app2, k_app, k_pop3, k_pop2, k_pop, k_apL2, k_apL1, k_apL, k_cal, k_calR, k_calO, k_ch1, k_ch2, k_lst, k_fldV, k_fldO, v_setF, v_pC, v_p1, v_p2, v_p3, v_aNil, v_aCons, v_pA, v_b1, v_asB, v_bAnd, v_bOr, v_bNot, v_pIf, v_pAndK, v_pOrK, v_liftE, v_e1, v_e2, v_bNil, v_bCons, v_eA, v_vNil, v_vVal, v_vFr, v_liftB, v_q1, v_qAnd, v_qOr, v_qNot, v_eIf, v_gVar, v_gTupD, v_gsNil, v_gsCons, v_pIxLL, v_gIx, v_gIx2, v_sNext, v_sNever, v_sRetN, v_sRet, v_sRetE, v_sRetF, v_sExpr, v_sExprE, v_sIf, v_sIfE, v_seq, v_asg, v_asgE, v_own, v_ownG, v_par, v_aug, v_putNil, v_putV, v_putF, v_iAdd, v_pSl, v_oNone, v_oSome, v_eApp, v_ePop, v_eAppLL, v_eCallO, v_callO, v_i1, v_pM1, v_pChain, v_pIndex, v_aLen, v_aApp, v_pFrz, v_pAO, v_gLst, v_frz0, v_frz0l, v_frzO, v_frz1, v_frzV, v_frzU, R.bind_ok, RE.bind_ok, RE.seq_ok, R.seq_ok, R.seqB_ok, RE.bindA_ok, RA.bind_ok, RA.bindE_ok, RV.bind_ok, RB.bind_ok, RB.bindE_ok, RB.seq_ok, RE.bindB_ok, upB_ok, up_ok, RS.then_nx, RS.then_rt, RS.then_rtO, RS.then_ct, RS.then_bk, o_eqI, o_neI, o_eqB, o_or1, o_or2, o_or3, o_and1, o_and2, o_and3, Int.cast_ofNat_Int, Int.reduceEq, Int.reduceLT, Int.reduceLE, Int.reduceAdd, Int.reduceSub, Int.reduceMul, Int.reduceNeg, o_add, o_sub, o_lt, o_le, o_gt, o_ge, o_int, o_abs, o_lenL, o_lenT, o_lenS, o_isN, o_isnN, n_non, n_int, n_str, n_bl, n_tup, n_lst, n_ins, o_mkT0, o_mkT1, o_mkT2, o_mkT3, o_mkL0, o_mkL1, o_mkL2, o_mkL3, o_maxD, o_minD, o_revT, o_revL, o_ixT0, o_ixT1, o_ixT2, o_isL, o_tupL, o_tupT, o_not, o_neg, ok_match, ok_match2, kt_int, kt_str, kt_bl, kt_tup, kt_lst, kt_non, kt_some, i_enumT, i_enumL, i_lst, i_tup, i_scr, List.getElem?_cons_zero, List.getElem?_cons_succ, List.set_cons_zero, List.set_cons_succ, List.length_cons, List.length_nil, List.length_set, List.map_cons, List.map_nil, List.cons_append, List.nil_append, List.append_nil, Option.bind_some, Option.map_some, Nat.reduceAdd, Nat.reduceLT, Nat.reduceSucc, Nat.zero_lt_succ, Nat.lt_add_left_iff_pos, eq_self, and_self, true_and, and_true, if_true_, if_false_, Int.toNat_natCast, ite_true, ite_false, Bool.not_true, Bool.not_false, Bool.false_eq_true, decide_true, decide_false, wpO_some, turn_nx, turn_ct, turn_bk, reduceCtorEq, Nat.succ_pos, Nat.succ_lt_succ_iff, hk, a1, a2, a3, h1, h2]
  exact isRt_ok
theorem is_tied_c {a b : Nat} (h : Within M n) (h1 : a < n) (h2 : b < n) : callV F_is_tied [.tup (tiA nm M), .str (nm a), .str (nm b)] = .ok (.bl (decide ((a, b) ∈ M) || decide ((b, a) ∈ M))) := by
  refine cv_rt ?_
  have a1 := N.inTs h h1 h2
  have a2 := N.inTs h h2 h1
  show Wp (m_is_tied [.val (.tup (tiA nm M)), .val (.str (nm a)), .val (.str (nm b))]) _
  unfold m_is_tied
  simp -implicitDefEqProofs only [v_pVar', v_pVarQ', v_pVarR', k_v, k_vq, k_vr, k_oq, k_or, k_or2, k_vVal, k_vFr, k_par, k_set, k_aug, k_own, k_retF, k_ix, k_ix2, k_ixL, oR_s, k_app2, k_app, k_pop3, k_pop2, k_pop, k_apL2, k_apL1, k_apL, k_cal, k_calR, k_calO, k_ch1, k_ch2, k_lst, k_fldV, k_fldO, v_setF, v_pC, v_p1, v_p2, v_p3, v_aNil, v_aCons, v_pA, v_b1, v_asB, v_bAnd, v_bOr, v_bNot, v_pIf, v_pAndK, v_pOrK, v_liftE, v_e1, v_e2, v_bNil, v_bCons, v_eA, v_vNil, v_vVal, v_vFr, v_liftB, v_q1, v_qAnd, v_qOr, v_qNot, v_eIf, v_gVar, v_gTupD, v_gsNil, v_gsCons, v_pIxLL, v_gIx, v_gIx2, v_sNext, v_sNever, v_sRetN, v_sRet, v_sRetE, v_sRetF, v_sExpr, v_sExprE, v_sIf, v_sIfE, v_seq, v_asg, v_asgE, v_own, v_ownG, v_par, v_aug, v_putNil, v_putV, v_putF, v_iAdd, v_pSl, v_oNone, v_oSome, v_eApp, v_ePop, v_eAppLL, v_eCallO, v_callO, v_i1, v_pM1, v_pChain, v_pIndex, v_aLen, v_aApp, v_pFrz, v_pAO, v_gLst, v_frz0, v_frz0l, v_frzO, v_frz1, v_frzV, v_frzU, R.bind_ok, RE.bind_ok, RE.seq_ok, R.seq_ok, R.seqB_ok, RE.bindA_ok, RA.bind_ok, RA.bindE_ok, RV.bind_ok, RB.bind_ok, RB.bindE_ok, RB.seq_ok, RE.bindB_ok, upB_ok, up_ok, RS.then_nx, RS.then_rt, RS.then_rtO, RS.then_ct, RS.then_bk, o_eqI, o_neI, o_eqB, o_or1, o_or2, o_or3, o_and1, o_and2, o_and3, Int.cast_ofNat_Int, Int.reduceEq, Int.reduceLT, Int.reduceLE, Int.reduceAdd, Int.reduceSub, Int.reduceMul, Int.reduceNeg, o_add, o_sub, o_lt, o_le, o_gt, o_ge, o_int, o_abs, o_lenL, o_lenT, o_lenS, o_isN, o_isnN, n_non, n_int, n_str, n_bl, n_tup, n_lst, n_ins, o_mkT0, o_mkT1, o_mkT2, o_mkT3, o_mkL0, o_mkL1, o_mkL2, o_mkL3, o_maxD, o_minD, o_revT, o_revL, o_ixT0, o_ixT1, o_ixT2, o_isL, o_tupL, o_tupT, o_not, o_neg, ok_match, ok_match2, kt_int, kt_str, kt_bl, kt_tup, kt_lst, kt_non, kt_some, i_enumT, i_enumL, i_lst, i_tup, i_scr, List.getElem?_cons_zero, List.getElem?_cons_succ, List.set_cons_zero, List.set_cons_succ, List.length_cons, List.length_nil, List.length_set, List.map_cons, List.map_nil, List.cons_append, List.nil_append, List.append_nil, Option.bind_some, Option.map_some, Nat.reduceAdd, Nat.reduceLT, Nat.reduceSucc, Nat.zero_lt_succ, Nat.lt_add_left_iff_pos, eq_self, and_self, true_and, and_true, if_true_, if_false_, Int.toNat_natCast, ite_true, ite_false, Bool.not_true, Bool.not_false, Bool.false_eq_true, decide_true, decide_false, wpO_some, turn_nx, turn_ct, turn_bk, reduceCtorEq, Nat.succ_pos, Nat.succ_lt_succ_iff, a1, a2]
  exact isRt_ok
theorem wrong_tie_c (T : Bd n L) (hl : L.length ≤ 60) : callV F_wrong_tie [twD n nm, tiD nm L] = .ok (.tup []) := by
  refine cv_rt ?_
  have hk : ("tuple" == "tuple") = true := rfl
  show Wp (m_wrong_tie [.val (twD n nm), .val (tiD nm L), .un, .un]) _
  unfold m_wrong_tie tiD
  simp -implicitDefEqProofs only [v_pVar', v_pVarQ', v_pVarR', k_v, k_vq, k_vr, k_oq, k_or, k_or2, k_vVal, k_vFr, k_par, k_set, k_aug, k_own, k_retF, k_ix, k_ix2, k_ixL, oR_s, k_app2, k_app, k_pop3, k_pop2, k_pop, k_apL2, k_apL1, k_apL, k_cal, k_calR, k_calO, k_ch1, k_ch2, k_lst, k_fldV, k_fldO, v_setF, v_pC, v_p1, v_p2, v_p3, v_aNil, v_aCons, v_pA, v_b1, v_asB, v_bAnd, v_bOr, v_bNot, v_pIf, v_pAndK, v_pOrK, v_liftE, v_e1, v_e2, v_bNil, v_bCons, v_eA, v_vNil, v_vVal, v_vFr, v_liftB, v_q1, v_qAnd, v_qOr, v_qNot, v_eIf, v_gVar, v_gTupD, v_gsNil, v_gsCons, v_pIxLL, v_gIx, v_gIx2, v_sNext, v_sNever, v_sRetN, v_sRet, v_sRetE, v_sRetF, v_sExpr, v_sExprE, v_sIf, v_sIfE, v_seq, v_asg, v_asgE, v_own, v_ownG, v_par, v_aug, v_putNil, v_putV, v_putF, v_iAdd, v_pSl, v_oNone, v_oSome, v_eApp, v_ePop, v_eAppLL, v_eCallO, v_callO, v_i1, v_pM1, v_pChain, v_pIndex, v_aLen, v_aApp, v_pFrz, v_pAO, v_gLst, v_frz0, v_frz0l, v_frzO, v_frz1, v_frzV, v_frzU, R.bind_ok, RE.bind_ok, RE.seq_ok, R.seq_ok, R.seqB_ok, RE.bindA_ok, RA.bind_ok, RA.bindE_ok, RV.bind_ok, RB.bind_ok, RB.bindE_ok, RB.seq_ok, RE.bindB_ok, upB_ok, up_ok, RS.then_nx, RS.then_rt, RS.then_rtO, RS.then_ct, RS.then_bk, o_eqI, o_neI, o_eqB, o_or1, o_or2, o_or3, o_and1, o_and2, o_and3, Int.cast_ofNat_Int, Int.reduceEq, Int.reduceLT, Int.reduceLE, Int.reduceAdd, Int.reduceSub, Int.reduceMul, Int.reduceNeg, o_add, o_sub, o_lt, o_le, o_gt, o_ge, o_int, o_abs, o_lenL, o_lenT, o_lenS, o_isN, o_isnN, n_non, n_int, n_str, n_bl, n_tup, n_lst, n_ins, o_mkT0, o_mkT1, o_mkT2, o_mkT3, o_mkL0, o_mkL1, o_mkL2, o_mkL3, o_maxD, o_minD, o_revT, o_revL, o_ixT0, o_ixT1, o_ixT2, o_isL, o_tupL, o_tupT, o_not, o_neg, ok_match, ok_match2, kt_int, kt_str, kt_bl, kt_tup, kt_lst, kt_non, kt_some, i_enumT, i_enumL, i_lst, i_tup, i_scr, List.getElem?_cons_zero, List.getElem?_cons_succ, List.set_cons_zero, List.set_cons_succ, List.length_cons, List.length_nil, List.length_set, List.map_cons, List.map_nil, List.cons_append, List.nil_append, List.append_nil, Option.bind_some, Option.map_some, Nat.reduceAdd, Nat.reduceLT, Nat.reduceSucc, Nat.zero_lt_succ, Nat.lt_add_left_iff_pos, eq_self, and_self, true_and, and_true, if_true_, if_false_, Int.toNat_natCast, ite_true, ite_false, Bool.not_true, Bool.not_false, Bool.false_eq_true, decide_true, decide_false, wpO_some, turn_nx, turn_ct, turn_bk, reduceCtorEq, Nat.succ_pos, Nat.succ_lt_succ_iff, hk]
  refine wp_range (fun k ρ => ∃ s1 s2, ρ = [.val (twD n nm), .val (.tup (tiA nm L)), s1, s2]) L.length (enc := fun i : Nat => .tup [.int (i : Int), tieD nm (L.getD i (0, 0))]) ?_ ⟨_, _, rfl⟩ ?_ ?_
  · simp -implicitDefEqProofs only [v_pVar', v_pVarQ', v_pVarR', k_v, k_vq, k_vr, k_oq, k_or, k_or2, k_vVal, k_vFr, k_par, k_set, k_aug, k_own, k_retF, k_ix, k_ix2, k_ixL, oR_s, k_app2, k_app, k_pop3, k_pop2, k_pop, k_apL2, k_apL1, k_apL, k_cal, k_calR, k_calO, k_ch1, k_ch2, k_lst, k_fldV, k_fldO, v_setF, v_pC, v_p1, v_p2, v_p3, v_aNil, v_aCons, v_pA, v_b1, v_asB, v_bAnd, v_bOr, v_bNot, v_pIf, v_pAndK, v_pOrK, v_liftE, v_e1, v_e2, v_bNil, v_bCons, v_eA, v_vNil, v_vVal, v_vFr, v_liftB, v_q1, v_qAnd, v_qOr, v_qNot, v_eIf, v_gVar, v_gTupD, v_gsNil, v_gsCons, v_pIxLL, v_gIx, v_gIx2, v_sNext, v_sNever, v_sRetN, v_sRet, v_sRetE, v_sRetF, v_sExpr, v_sExprE, v_sIf, v_sIfE, v_seq, v_asg, v_asgE, v_own, v_ownG, v_par, v_aug, v_putNil, v_putV, v_putF, v_iAdd, v_pSl, v_oNone, v_oSome, v_eApp, v_ePop, v_eAppLL, v_eCallO, v_callO, v_i1, v_pM1, v_pChain, v_pIndex, v_aLen, v_aApp, v_pFrz, v_pAO, v_gLst, v_frz0, v_frz0l, v_frzO, v_frz1, v_frzV, v_frzU, R.bind_ok, RE.bind_ok, RE.seq_ok, R.seq_ok, R.seqB_ok, RE.bindA_ok, RA.bind_ok, RA.bindE_ok, RV.bind_ok, RB.bind_ok, RB.bindE_ok, RB.seq_ok, RE.bindB_ok, upB_ok, up_ok, RS.then_nx, RS.then_rt, RS.then_rtO, RS.then_ct, RS.then_bk, o_eqI, o_neI, o_eqB, o_or1, o_or2, o_or3, o_and1, o_and2, o_and3, Int.cast_ofNat_Int, Int.reduceEq, Int.reduceLT, Int.reduceLE, Int.reduceAdd, Int.reduceSub, Int.reduceMul, Int.reduceNeg, o_add, o_sub, o_lt, o_le, o_gt, o_ge, o_int, o_abs, o_lenL, o_lenT, o_lenS, o_isN, o_isnN, n_non, n_int, n_str, n_bl, n_tup, n_lst, n_ins, o_mkT0, o_mkT1, o_mkT2, o_mkT3, o_mkL0, o_mkL1, o_mkL2, o_mkL3, o_maxD, o_minD, o_revT, o_revL, o_ixT0, o_ixT1, o_ixT2, o_isL, o_tupL, o_tupT, o_not, o_neg, ok_match, ok_match2, kt_int, kt_str, kt_bl, kt_tup, kt_lst, kt_non, kt_some, i_enumT, i_enumL, i_lst, i_tup, i_scr, List.getElem?_cons_zero, List.getElem?_cons_succ, List.set_cons_zero, List.set_cons_succ, List.length_cons, List.length_nil, List.length_set, List.map_cons, List.map_nil, List.cons_append, List.nil_append, List.append_nil, Option.bind_some, Option.map_some, Nat.reduceAdd, Nat.reduceLT, Nat.reduceSucc, Nat.zero_lt_succ, Nat.lt_add_left_iff_pos, eq_self, and_self, true_and, and_true, if_true_, if_false_, Int.toNat_natCast, ite_true, ite_false, Bool.not_true, Bool.not_false, Bool.false_eq_true, decide_true, decide_false, wpO_some, turn_nx, turn_ct, turn_bk, reduceCtorEq, Nat.succ_pos, Nat.succ_lt_succ_iff]
    rw [numbered_of]
    unfold tiA
    rw [List.length_map]
    congr 1
    refine arr_congr fun i hi => ?_
    rw [Nat.zero_add, List.getD_eq_getElem?_getD, List.getElem?_map, List.getElem?_eq_getElem hi, List.getD_eq_getElem?_getD, List.getElem?_eq_getElem hi]
    rfl
  · rintro j _ hj ⟨s1, s2, rfl⟩
    generalize hp : L.getD j (0, 0) = p
    have hp' : p = L[j] := by rw [← hp, List.getD_eq_getElem?_getD, List.getElem?_eq_getElem hj]; rfl
    have hm : p ∈ L := by rw [hp']; exact List.getElem_mem hj
    obtain ⟨w1, w2⟩ := T.w p hm
    have a1 := is_pair_c N w1 w2
    have a2 : ¬ p.1 = p.2 := T.irr p hm
    have a3 : ¬ (60 : Int) ≤ (j : Int) := by omega
    have a4 : slD (.tup (tiA nm L)) none (some (j : Int)) = .ok (.tup (tiA nm (L.take j))) := by
      rw [sl_take (by unfold tiA; rw [List.length_map]; omega)]
      unfold tiA
      rw [List.map_take]
    have hT : Within (L.take j) n := fun q hq => T.w q (List.mem_of_mem_take hq)
    have a5 := is_tied_c N hT w1 w2
    have not : ∀ q ∈ L.take j, q ≠ p ∧ q ≠ (p.2, p.1) := by
      intro q hq
      obtain ⟨i, hi, rfl⟩ := List.mem_iff_getElem.mp hq
      rw [List.length_take] at hi
      rw [List.getElem_take, hp']
      exact List.pairwise_iff_getElem.mp T.pw i j (by omega) hj (by omega)
    have a6 : ¬ (p.1, p.2) ∈ L.take j := fun z => (not _ z).1 rfl
    have a7 : ¬ (p.2, p.1) ∈ L.take j := fun z => (not _ z).2 rfl
    unfold tieD at *
    simp -implicitDefEqProofs only [v_pVar', v_pVarQ', v_pVarR', k_v, k_vq, k_vr, k_oq, k_or, k_or2, k_vVal, k_vFr, k_par, k_set, k_aug, k_own, k_retF, k_ix, k_ix2, k_ixL, oR_s, k_app2, k_app, k_pop3, k_pop2, k_pop, k_apL2, k_apL1, k_apL, k_cal, k_calR, k_calO, k_ch1, k_ch2, k_lst, k_fldV, k_fldO, v_setF, v_pC, v_p1, v_p2, v_p3, v_aNil, v_aCons, v_pA, v_b1, v_asB, v_bAnd, v_bOr, v_bNot, v_pIf, v_pAndK, v_pOrK, v_liftE, v_e1, v_e2, v_bNil, v_bCons, v_eA, v_vNil, v_vVal, v_vFr, v_liftB, v_q1, v_qAnd, v_qOr, v_qNot, v_eIf, v_gVar, v_gTupD, v_gsNil, v_gsCons, v_pIxLL, v_gIx, v_gIx2, v_sNext, v_sNever, v_sRetN, v_sRet, v_sRetE, v_sRetF, v_sExpr, v_sExprE, v_sIf, v_sIfE, v_seq, v_asg, v_asgE, v_own, v_ownG, v_par, v_aug, v_putNil, v_putV, v_putF, v_iAdd, v_pSl, v_oNone, v_oSome, v_eApp, v_ePop, v_eAppLL, v_eCallO, v_callO, v_i1, v_pM1, v_pChain, v_pIndex, v_aLen, v_aApp, v_pFrz, v_pAO, v_gLst, v_frz0, v_frz0l, v_frzO, v_frz1, v_frzV, v_frzU, R.bind_ok, RE.bind_ok, RE.seq_ok, R.seq_ok, R.seqB_ok, RE.bindA_ok, RA.bind_ok, RA.bindE_ok, RV.bind_ok, RB.bind_ok, RB.bindE_ok, RB.seq_ok, RE.bindB_ok, upB_ok, up_ok, RS.then_nx, RS.then_rt, RS.then_rtO, RS.then_ct, RS.then_bk, o_eqI, o_neI, o_eqB, o_or1, o_or2, o_or3, o_and1, o_and2, o_and3, Int.cast_ofNat_Int, Int.reduceEq, Int.reduceLT, Int.reduceLE, Int.reduceAdd, Int.reduceSub, Int.reduceMul, Int.reduceNeg, o_add, o_sub, o_lt, o_le, o_gt, o_ge, o_int, o_abs, o_lenL, o_lenT, o_lenS, o_isN, o_isnN, n_non, n_int, n_str, n_bl, n_tup, n_lst, n_ins, o_mkT0, o_mkT1, o_mkT2, o_mkT3, o_mkL0, o_mkL1, o_mkL2, o_mkL3, o_maxD, o_minD, o_revT, o_revL, o_ixT0, o_ixT1, o_ixT2, o_isL, o_tupL, o_tupT, o_not, o_neg, ok_match, ok_match2, kt_int, kt_str, kt_bl, kt_tup, kt_lst, kt_non, kt_some, i_enumT, i_enumL, i_lst, i_tup, i_scr, List.getElem?_cons_zero, List.getElem?_cons_succ, List.set_cons_zero, List.set_cons_succ, List.length_cons, List.length_nil, List.length_set, List.map_cons, List.map_nil, List.cons_append, List.nil_append, List.append_nil, Option.bind_some, Option.map_some, Nat.reduceAdd, Nat.reduceLT, Nat.reduceSucc, Nat.zero_lt_succ, Nat.lt_add_left_iff_pos, eq_self, and_self, true_and, and_true, if_true_, if_false_, Int.toNat_natCast, ite_true, ite_false, Bool.not_true, Bool.not_false, Bool.false_eq_true, decide_true, decide_false, wpO_some, turn_nx, turn_ct, turn_bk, reduceCtorEq, Nat.succ_pos, Nat.succ_lt_succ_iff, hp, a1, a2, a3, a4, a5, a6, a7, Bool.or_false]
    exact ⟨_, _, rfl⟩
  · rintro _ ⟨s1, s2, rfl⟩
    simp -implicitDefEqProofs only [v_pVar', v_pVarQ', v_pVarR', k_v, k_vq, k_vr, k_oq, k_or, k_or2, k_vVal, k_vFr, k_par, k_set, k_aug, k_own, k_retF, k_ix, k_ix2, k_ixL, oR_s, k_app2, k_app, k_pop3, k_pop2, k_pop, k_apL2, k_apL1, k_apL, k_cal, k_calR, k_calO, k_ch1, k_ch2, k_lst, k_fldV, k_fldO, v_setF, v_pC, v_p1, v_p2, v_p3, v_aNil, v_aCons, v_pA, v_b1, v_asB, v_bAnd, v_bOr, v_bNot, v_pIf, v_pAndK, v_pOrK, v_liftE, v_e1, v_e2, v_bNil, v_bCons, v_eA, v_vNil, v_vVal, v_vFr, v_liftB, v_q1, v_qAnd, v_qOr, v_qNot, v_eIf, v_gVar, v_gTupD, v_gsNil, v_gsCons, v_pIxLL, v_gIx, v_gIx2, v_sNext, v_sNever, v_sRetN, v_sRet, v_sRetE, v_sRetF, v_sExpr, v_sExprE, v_sIf, v_sIfE, v_seq, v_asg, v_asgE, v_own, v_ownG, v_par, v_aug, v_putNil, v_putV, v_putF, v_iAdd, v_pSl, v_oNone, v_oSome, v_eApp, v_ePop, v_eAppLL, v_eCallO, v_callO, v_i1, v_pM1, v_pChain, v_pIndex, v_aLen, v_aApp, v_pFrz, v_pAO, v_gLst, v_frz0, v_frz0l, v_frzO, v_frz1, v_frzV, v_frzU, R.bind_ok, RE.bind_ok, RE.seq_ok, R.seq_ok, R.seqB_ok, RE.bindA_ok, RA.bind_ok, RA.bindE_ok, RV.bind_ok, RB.bind_ok, RB.bindE_ok, RB.seq_ok, RE.bindB_ok, upB_ok, up_ok, RS.then_nx, RS.then_rt, RS.then_rtO, RS.then_ct, RS.then_bk, o_eqI, o_neI, o_eqB, o_or1, o_or2, o_or3, o_and1, o_and2, o_and3, Int.cast_ofNat_Int, Int.reduceEq, Int.reduceLT, Int.reduceLE, Int.reduceAdd, Int.reduceSub, Int.reduceMul, Int.reduceNeg, o_add, o_sub, o_lt, o_le, o_gt, o_ge, o_int, o_abs, o_lenL, o_lenT, o_lenS, o_isN, o_isnN, n_non, n_int, n_str, n_bl, n_tup, n_lst, n_ins, o_mkT0, o_mkT1, o_mkT2, o_mkT3, o_mkL0, o_mkL1, o_mkL2, o_mkL3, o_maxD, o_minD, o_revT, o_revL, o_ixT0, o_ixT1, o_ixT2, o_isL, o_tupL, o_tupT, o_not, o_neg, ok_match, ok_match2, kt_int, kt_str, kt_bl, kt_tup, kt_lst, kt_non, kt_some, i_enumT, i_enumL, i_lst, i_tup, i_scr, List.getElem?_cons_zero, List.getElem?_cons_succ, List.set_cons_zero, List.set_cons_succ, List.length_cons, List.length_nil, List.length_set, List.map_cons, List.map_nil, List.cons_append, List.nil_append, List.append_nil, Option.bind_some, Option.map_some, Nat.reduceAdd, Nat.reduceLT, Nat.reduceSucc, Nat.zero_lt_succ, Nat.lt_add_left_iff_pos, eq_self, and_self, true_and, and_true, if_true_, if_false_, Int.toNat_natCast, ite_true, ite_false, Bool.not_true, Bool.not_false, Bool.false_eq_true, decide_true, decide_false, wpO_some, turn_nx, turn_ct, turn_bk, reduceCtorEq, Nat.succ_pos, Nat.succ_lt_succ_iff]
    exact isRt_ok
end
end MA

set_option Elab.async false
set_option linter.all false
set_option maxRecDepth 100000
set_option maxHeartbeats 2000000
/-! Neighbours, distances. -/
namespace MA
open PySem PySem.Spec PyProof.Rows L2 He DL DM Gr
theorem nbr_len (L : Es) (i : Nat) : (nbr L i).length ≤ 2 * L.length := by
  induction L with
  | nil => simp [nbr]
  | cons p L ih =>
    have e : nbr (p :: L) i = nbr [p] i ++ nbr L i := nbr_append [p] L i
    rw [e, List.length_append]
    obtain ⟨a, b⟩ := p
    rw [nbr_one]
    have : ((if a = i then [b] else []) ++ (if b = i then [a] else [])).length ≤ 2 := by
      split <;> split <;> simp
    simp only [List.length_cons]
    omega
theorem lt_size {k : Nat} (h : k < 1000000) : k < sizeLine := by rw [sizeLine_eq]; omega
def nA (xs : List Nat) : List D := xs.map fun k : Nat => D.int k
theorem nA_append (xs : List Nat) (x : Nat) : nA xs ++ [.int (x : Int)] = nA (xs ++ [x]) := by simp [nA]
theorem nA_len (xs : List Nat) : (nA xs).length = xs.length := by simp [nA]
def nearA (n : Nat) (nb : Nat → List Nat) : List D := arr n fun i => .lst (nA (nb i))
section
variable {n : Nat} {nm : Nat → Str} {L M : Es} (N : Nms n nm)
include N
theorem neighbours_c (T : Bd n L) (hl : L.length ≤ 1000) : callV F_neighbours [twD n nm, tiD nm L] = .ok (.lst (nearA n (nbr L))) := by
  refine cv_rt ?_
  have hi := N.hi
  have e0 : itemsD (twD n nm) = .ok (twA n nm) := rfl
  show Wp (m_neighbours [.val (twD n nm), .val (tiD nm L), .un, .un, .un, .un, .un, .un]) _
  unfold m_neighbours
  simp -implicitDefEqProofs only [v_pVar', v_pVarQ', v_pVarR', k_v, k_vq, k_vr, k_oq, k_or, k_or2, k_vVal, k_vFr, k_par, k_set, k_aug, k_own, k_retF, k_ix, k_ix2, k_ixL, oR_s, k_app2, k_app, k_pop3, k_pop2, k_pop, k_apL2, k_apL1, k_apL, k_cal, k_calR, k_calO, k_ch1, k_ch2, k_lst, k_fldV, k_fldO, v_setF, v_pC, v_p1, v_p2, v_p3, v_aNil, v_aCons, v_pA, v_b1, v_asB, v_bAnd, v_bOr, v_bNot, v_pIf, v_pAndK, v_pOrK, v_liftE, v_e1, v_e2, v_bNil, v_bCons, v_eA, v_vNil, v_vVal, v_vFr, v_liftB, v_q1, v_qAnd, v_qOr, v_qNot, v_eIf, v_gVar, v_gTupD, v_gsNil, v_gsCons, v_pIxLL, v_gIx, v_gIx2, v_sNext, v_sNever, v_sRetN, v_sRet, v_sRetE, v_sRetF, v_sExpr, v_sExprE, v_sIf, v_sIfE, v_seq, v_asg, v_asgE, v_own, v_ownG, v_par, v_aug, v_putNil, v_putV, v_putF, v_iAdd, v_pSl, v_oNone, v_oSome, v_eApp, v_ePop, v_eAppLL, v_eCallO, v_callO, v_i1, v_pM1, v_pChain, v_pIndex, v_aLen, v_aApp, v_pFrz, v_pAO, v_gLst, v_frz0, v_frz0l, v_frzO, v_frz1, v_frzV, v_frzU, R.bind_ok, RE.bind_ok, RE.seq_ok, R.seq_ok, R.seqB_ok, RE.bindA_ok, RA.bind_ok, RA.bindE_ok, RV.bind_ok, RB.bind_ok, RB.bindE_ok, RB.seq_ok, RE.bindB_ok, upB_ok, up_ok, RS.then_nx, RS.then_rt, RS.then_rtO, RS.then_ct, RS.then_bk, o_eqI, o_neI, o_eqB, o_or1, o_or2, o_or3, o_and1, o_and2, o_and3, Int.cast_ofNat_Int, Int.reduceEq, Int.reduceLT, Int.reduceLE, Int.reduceAdd, Int.reduceSub, Int.reduceMul, Int.reduceNeg, o_add, o_sub, o_lt, o_le, o_gt, o_ge, o_int, o_abs, o_lenL, o_lenT, o_lenS, o_isN, o_isnN, n_non, n_int, n_str, n_bl, n_tup, n_lst, n_ins, o_mkT0, o_mkT1, o_mkT2, o_mkT3, o_mkL0, o_mkL1, o_mkL2, o_mkL3, o_maxD, o_minD, o_revT, o_revL, o_ixT0, o_ixT1, o_ixT2, o_isL, o_tupL, o_tupT, o_not, o_neg, ok_match, ok_match2, kt_int, kt_str, kt_bl, kt_tup, kt_lst, kt_non, kt_some, i_enumT, i_enumL, i_lst, i_tup, i_scr, List.getElem?_cons_zero, List.getElem?_cons_succ, List.set_cons_zero, List.set_cons_succ, List.length_cons, List.length_nil, List.length_set, List.map_cons, List.map_nil, List.cons_append, List.nil_append, List.append_nil, Option.bind_some, Option.map_some, Nat.reduceAdd, Nat.reduceLT, Nat.reduceSucc, Nat.zero_lt_succ, Nat.lt_add_left_iff_pos, eq_self, and_self, true_and, and_true, if_true_, if_false_, Int.toNat_natCast, ite_true, ite_false, Bool.not_true, Bool.not_false, Bool.false_eq_true, decide_true, decide_false, wpO_some, turn_nx, turn_ct, turn_bk, reduceCtorEq, Nat.succ_pos, Nat.succ_lt_succ_iff]
  rw [gLl_map (fun i : Nat => .str (nm i)) (fun _ => []) (List.range n)]
  rotate_left
  · simp -implicitDefEqProofs only [v_pVar', v_pVarQ', v_pVarR', k_v, k_vq, k_vr, k_oq, k_or, k_or2, k_vVal, k_vFr, k_par, k_set, k_aug, k_own, k_retF, k_ix, k_ix2, k_ixL, oR_s, k_app2, k_app, k_pop3, k_pop2, k_pop, k_apL2, k_apL1, k_apL, k_cal, k_calR, k_calO, k_ch1, k_ch2, k_lst, k_fldV, k_fldO, v_setF, v_pC, v_p1, v_p2, v_p3, v_aNil, v_aCons, v_pA, v_b1, v_asB, v_bAnd, v_bOr, v_bNot, v_pIf, v_pAndK, v_pOrK, v_liftE, v_e1, v_e2, v_bNil, v_bCons, v_eA, v_vNil, v_vVal, v_vFr, v_liftB, v_q1, v_qAnd, v_qOr, v_qNot, v_eIf, v_gVar, v_gTupD, v_gsNil, v_gsCons, v_pIxLL, v_gIx, v_gIx2, v_sNext, v_sNever, v_sRetN, v_sRet, v_sRetE, v_sRetF, v_sExpr, v_sExprE, v_sIf, v_sIfE, v_seq, v_asg, v_asgE, v_own, v_ownG, v_par, v_aug, v_putNil, v_putV, v_putF, v_iAdd, v_pSl, v_oNone, v_oSome, v_eApp, v_ePop, v_eAppLL, v_eCallO, v_callO, v_i1, v_pM1, v_pChain, v_pIndex, v_aLen, v_aApp, v_pFrz, v_pAO, v_gLst, v_frz0, v_frz0l, v_frzO, v_frz1, v_frzV, v_frzU, R.bind_ok, RE.bind_ok, RE.seq_ok, R.seq_ok, R.seqB_ok, RE.bindA_ok, RA.bind_ok, RA.bindE_ok, RV.bind_ok, RB.bind_ok, RB.bindE_ok, RB.seq_ok, RE.bindB_ok, upB_ok, up_ok, RS.then_nx, RS.then_rt, RS.then_rtO, RS.then_ct, RS.then_bk, o_eqI, o_neI, o_eqB, o_or1, o_or2, o_or3, o_and1, o_and2, o_and3, Int.cast_ofNat_Int, Int.reduceEq, Int.reduceLT, Int.reduceLE, Int.reduceAdd, Int.reduceSub, Int.reduceMul, Int.reduceNeg, o_add, o_sub, o_lt, o_le, o_gt, o_ge, o_int, o_abs, o_lenL, o_lenT, o_lenS, o_isN, o_isnN, n_non, n_int, n_str, n_bl, n_tup, n_lst, n_ins, o_mkT0, o_mkT1, o_mkT2, o_mkT3, o_mkL0, o_mkL1, o_mkL2, o_mkL3, o_maxD, o_minD, o_revT, o_revL, o_ixT0, o_ixT1, o_ixT2, o_isL, o_tupL, o_tupT, o_not, o_neg, ok_match, ok_match2, kt_int, kt_str, kt_bl, kt_tup, kt_lst, kt_non, kt_some, i_enumT, i_enumL, i_lst, i_tup, i_scr, List.getElem?_cons_zero, List.getElem?_cons_succ, List.set_cons_zero, List.set_cons_succ, List.length_cons, List.length_nil, List.length_set, List.map_cons, List.map_nil, List.cons_append, List.nil_append, List.append_nil, Option.bind_some, Option.map_some, Nat.reduceAdd, Nat.reduceLT, Nat.reduceSucc, Nat.zero_lt_succ, Nat.lt_add_left_iff_pos, eq_self, and_self, true_and, and_true, if_true_, if_false_, Int.toNat_natCast, ite_true, ite_false, Bool.not_true, Bool.not_false, Bool.false_eq_true, decide_true, decide_false, wpO_some, turn_nx, turn_ct, turn_bk, reduceCtorEq, Nat.succ_pos, Nat.succ_lt_succ_iff, e0]; rfl
  · intro i hi
    exact ⟨_, rfl, rfl, o_mkL0⟩
  · rw [List.length_range]; omega
  simp -implicitDefEqProofs only [v_pVar', v_pVarQ', v_pVarR', k_v, k_vq, k_vr, k_oq, k_or, k_or2, k_vVal, k_vFr, k_par, k_set, k_aug, k_own, k_retF, k_ix, k_ix2, k_ixL, oR_s, k_app2, k_app, k_pop3, k_pop2, k_pop, k_apL2, k_apL1, k_apL, k_cal, k_calR, k_calO, k_ch1, k_ch2, k_lst, k_fldV, k_fldO, v_setF, v_pC, v_p1, v_p2, v_p3, v_aNil, v_aCons, v_pA, v_b1, v_asB, v_bAnd, v_bOr, v_bNot, v_pIf, v_pAndK, v_pOrK, v_liftE, v_e1, v_e2, v_bNil, v_bCons, v_eA, v_vNil, v_vVal, v_vFr, v_liftB, v_q1, v_qAnd, v_qOr, v_qNot, v_eIf, v_gVar, v_gTupD, v_gsNil, v_gsCons, v_pIxLL, v_gIx, v_gIx2, v_sNext, v_sNever, v_sRetN, v_sRet, v_sRetE, v_sRetF, v_sExpr, v_sExprE, v_sIf, v_sIfE, v_seq, v_asg, v_asgE, v_own, v_ownG, v_par, v_aug, v_putNil, v_putV, v_putF, v_iAdd, v_pSl, v_oNone, v_oSome, v_eApp, v_ePop, v_eAppLL, v_eCallO, v_callO, v_i1, v_pM1, v_pChain, v_pIndex, v_aLen, v_aApp, v_pFrz, v_pAO, v_gLst, v_frz0, v_frz0l, v_frzO, v_frz1, v_frzV, v_frzU, R.bind_ok, RE.bind_ok, RE.seq_ok, R.seq_ok, R.seqB_ok, RE.bindA_ok, RA.bind_ok, RA.bindE_ok, RV.bind_ok, RB.bind_ok, RB.bindE_ok, RB.seq_ok, RE.bindB_ok, upB_ok, up_ok, RS.then_nx, RS.then_rt, RS.then_rtO, RS.then_ct, RS.then_bk, o_eqI, o_neI, o_eqB, o_or1, o_or2, o_or3, o_and1, o_and2, o_and3, Int.cast_ofNat_Int, Int.reduceEq, Int.reduceLT, Int.reduceLE, Int.reduceAdd, Int.reduceSub, Int.reduceMul, Int.reduceNeg, o_add, o_sub, o_lt, o_le, o_gt, o_ge, o_int, o_abs, o_lenL, o_lenT, o_lenS, o_isN, o_isnN, n_non, n_int, n_str, n_bl, n_tup, n_lst, n_ins, o_mkT0, o_mkT1, o_mkT2, o_mkT3, o_mkL0, o_mkL1, o_mkL2, o_mkL3, o_maxD, o_minD, o_revT, o_revL, o_ixT0, o_ixT1, o_ixT2, o_isL, o_tupL, o_tupT, o_not, o_neg, ok_match, ok_match2, kt_int, kt_str, kt_bl, kt_tup, kt_lst, kt_non, kt_some, i_enumT, i_enumL, i_lst, i_tup, i_scr, List.getElem?_cons_zero, List.getElem?_cons_succ, List.set_cons_zero, List.set_cons_succ, List.length_cons, List.length_nil, List.length_set, List.map_cons, List.map_nil, List.cons_append, List.nil_append, List.append_nil, Option.bind_some, Option.map_some, Nat.reduceAdd, Nat.reduceLT, Nat.reduceSucc, Nat.zero_lt_succ, Nat.lt_add_left_iff_pos, eq_self, and_self, true_and, and_true, if_true_, if_false_, Int.toNat_natCast, ite_true, ite_false, Bool.not_true, Bool.not_false, Bool.false_eq_true, decide_true, decide_false, wpO_some, turn_nx, turn_ct, turn_bk, reduceCtorEq, Nat.succ_pos, Nat.succ_lt_succ_iff]
  refine wp_pre (tieD nm) (fun pre ρ => ∃ s1 s2 s3 s4 s5, ρ = [.val (twD n nm), .val (tiD nm L), .own 0 (.ll (arr n fun i => nA (nbr pre i))), s1, s2, s3, s4, s5]) L rfl ?_ ?_ ?_
  · exact ⟨_, _, _, _, _, rfl⟩
  · rintro pre ⟨a, b⟩ post _ rfl ⟨s1, s2, s3, s4, s5, rfl⟩
    obtain ⟨h1, h2⟩ := T.w (a, b) (by simp)
    have hne : a ≠ b := T.irr (a, b) (by simp)
    dsimp only at h1 h2
    have a1 := N.kind
    have a2 := N.ix h1
    have a3 := N.ix h2
    have hp : pre.length ≤ 1000 := by rw [List.length_append] at hl; omega
    have l1 : (nA (nbr pre a)).length < sizeLine := by rw [nA_len]; have := nbr_len pre a; exact lt_size (by omega)
    have l2 : (nA (nbr pre b)).length < sizeLine := by rw [nA_len]; have := nbr_len pre b; exact lt_size (by omega)
    have g1 := arr_get (g := fun i => nA (nbr pre i)) h1
    have g2 := arr_get (g := upd1 (fun i => nA (nbr pre i)) a (nA (nbr pre a ++ [b]))) h2
    rw [upd1_ne _ _ (fun z => hne z.symm)] at g2
    have harr : arr n (upd1 (upd1 (fun i => nA (nbr pre i)) a (nA (nbr pre a ++ [b]))) b (nA (nbr pre b ++ [a]))) = arr n fun i => nA (nbr (pre ++ [(a, b)]) i) := by
      refine arr_congr fun i hi => ?_
      rw [nbr_append, nbr_one]
      unfold upd1
      by_cases c1 : i = a
      · subst c1; simp [hne, Ne.symm hne]
      · by_cases c2 : i = b
        · subst c2; simp [c1, Ne.symm c1]
        · simp [c1, c2, Ne.symm c1, Ne.symm c2]
    unfold tieD
    simp -implicitDefEqProofs only [v_pVar', v_pVarQ', v_pVarR', k_v, k_vq, k_vr, k_oq, k_or, k_or2, k_vVal, k_vFr, k_par, k_set, k_aug, k_own, k_retF, k_ix, k_ix2, k_ixL, oR_s, k_app2, k_app, k_pop3, k_pop2, k_pop, k_apL2, k_apL1, k_apL, k_cal, k_calR, k_calO, k_ch1, k_ch2, k_lst, k_fldV, k_fldO, v_setF, v_pC, v_p1, v_p2, v_p3, v_aNil, v_aCons, v_pA, v_b1, v_asB, v_bAnd, v_bOr, v_bNot, v_pIf, v_pAndK, v_pOrK, v_liftE, v_e1, v_e2, v_bNil, v_bCons, v_eA, v_vNil, v_vVal, v_vFr, v_liftB, v_q1, v_qAnd, v_qOr, v_qNot, v_eIf, v_gVar, v_gTupD, v_gsNil, v_gsCons, v_pIxLL, v_gIx, v_gIx2, v_sNext, v_sNever, v_sRetN, v_sRet, v_sRetE, v_sRetF, v_sExpr, v_sExprE, v_sIf, v_sIfE, v_seq, v_asg, v_asgE, v_own, v_ownG, v_par, v_aug, v_putNil, v_putV, v_putF, v_iAdd, v_pSl, v_oNone, v_oSome, v_eApp, v_ePop, v_eAppLL, v_eCallO, v_callO, v_i1, v_pM1, v_pChain, v_pIndex, v_aLen, v_aApp, v_pFrz, v_pAO, v_gLst, v_frz0, v_frz0l, v_frzO, v_frz1, v_frzV, v_frzU, R.bind_ok, RE.bind_ok, RE.seq_ok, R.seq_ok, R.seqB_ok, RE.bindA_ok, RA.bind_ok, RA.bindE_ok, RV.bind_ok, RB.bind_ok, RB.bindE_ok, RB.seq_ok, RE.bindB_ok, upB_ok, up_ok, RS.then_nx, RS.then_rt, RS.then_rtO, RS.then_ct, RS.then_bk, o_eqI, o_neI, o_eqB, o_or1, o_or2, o_or3, o_and1, o_and2, o_and3, Int.cast_ofNat_Int, Int.reduceEq, Int.reduceLT, Int.reduceLE, Int.reduceAdd, Int.reduceSub, Int.reduceMul, Int.reduceNeg, o_add, o_sub, o_lt, o_le, o_gt, o_ge, o_int, o_abs, o_lenL, o_lenT, o_lenS, o_isN, o_isnN, n_non, n_int, n_str, n_bl, n_tup, n_lst, n_ins, o_mkT0, o_mkT1, o_mkT2, o_mkT3, o_mkL0, o_mkL1, o_mkL2, o_mkL3, o_maxD, o_minD, o_revT, o_revL, o_ixT0, o_ixT1, o_ixT2, o_isL, o_tupL, o_tupT, o_not, o_neg, ok_match, ok_match2, kt_int, kt_str, kt_bl, kt_tup, kt_lst, kt_non, kt_some, i_enumT, i_enumL, i_lst, i_tup, i_scr, List.getElem?_cons_zero, List.getElem?_cons_succ, List.set_cons_zero, List.set_cons_succ, List.length_cons, List.length_nil, List.length_set, List.map_cons, List.map_nil, List.cons_append, List.nil_append, List.append_nil, Option.bind_some, Option.map_some, Nat.reduceAdd, Nat.reduceLT, Nat.reduceSucc, Nat.zero_lt_succ, Nat.lt_add_left_iff_pos, eq_self, and_self, true_and, and_true, if_true_, if_false_, Int.toNat_natCast, ite_true, ite_false, Bool.not_true, Bool.not_false, Bool.false_eq_true, decide_true, decide_false, wpO_some, turn_nx, turn_ct, turn_bk, reduceCtorEq, Nat.succ_pos, Nat.succ_lt_succ_iff, a1, a2, a3, arr_len, ixN_nat h1, ixN_nat h2, l1, l2, g1, g2, arr_set, nA_append, harr]
    exact ⟨_, _, _, _, _, rfl⟩
  · rintro _ ⟨s1, s2, s3, s4, s5, rfl⟩
    simp -implicitDefEqProofs only [v_pVar', v_pVarQ', v_pVarR', k_v, k_vq, k_vr, k_oq, k_or, k_or2, k_vVal, k_vFr, k_par, k_set, k_aug, k_own, k_retF, k_ix, k_ix2, k_ixL, oR_s, k_app2, k_app, k_pop3, k_pop2, k_pop, k_apL2, k_apL1, k_apL, k_cal, k_calR, k_calO, k_ch1, k_ch2, k_lst, k_fldV, k_fldO, v_setF, v_pC, v_p1, v_p2, v_p3, v_aNil, v_aCons, v_pA, v_b1, v_asB, v_bAnd, v_bOr, v_bNot, v_pIf, v_pAndK, v_pOrK, v_liftE, v_e1, v_e2, v_bNil, v_bCons, v_eA, v_vNil, v_vVal, v_vFr, v_liftB, v_q1, v_qAnd, v_qOr, v_qNot, v_eIf, v_gVar, v_gTupD, v_gsNil, v_gsCons, v_pIxLL, v_gIx, v_gIx2, v_sNext, v_sNever, v_sRetN, v_sRet, v_sRetE, v_sRetF, v_sExpr, v_sExprE, v_sIf, v_sIfE, v_seq, v_asg, v_asgE, v_own, v_ownG, v_par, v_aug, v_putNil, v_putV, v_putF, v_iAdd, v_pSl, v_oNone, v_oSome, v_eApp, v_ePop, v_eAppLL, v_eCallO, v_callO, v_i1, v_pM1, v_pChain, v_pIndex, v_aLen, v_aApp, v_pFrz, v_pAO, v_gLst, v_frz0, v_frz0l, v_frzO, v_frz1, v_frzV, v_frzU, R.bind_ok, RE.bind_ok, RE.seq_ok, R.seq_ok, R.seqB_ok, RE.bindA_ok, RA.bind_ok, RA.bindE_ok, RV.bind_ok, RB.bind_ok, RB.bindE_ok, RB.seq_ok, RE.bindB_ok, upB_ok, up_ok, RS.then_nx, RS.then_rt, RS.then_rtO, RS.then_ct, RS.then_bk, o_eqI, o_neI, o_eqB, o_or1, o_or2, o_or3, o_and1, o_and2, o_and3, Int.cast_ofNat_Int, Int.reduceEq, Int.reduceLT, Int.reduceLE, Int.reduceAdd, Int.reduceSub, Int.reduceMul, Int.reduceNeg, o_add, o_sub, o_lt, o_le, o_gt, o_ge, o_int, o_abs, o_lenL, o_lenT, o_lenS, o_isN, o_isnN, n_non, n_int, n_str, n_bl, n_tup, n_lst, n_ins, o_mkT0, o_mkT1, o_mkT2, o_mkT3, o_mkL0, o_mkL1, o_mkL2, o_mkL3, o_maxD, o_minD, o_revT, o_revL, o_ixT0, o_ixT1, o_ixT2, o_isL, o_tupL, o_tupT, o_not, o_neg, ok_match, ok_match2, kt_int, kt_str, kt_bl, kt_tup, kt_lst, kt_non, kt_some, i_enumT, i_enumL, i_lst, i_tup, i_scr, List.getElem?_cons_zero, List.getElem?_cons_succ, List.set_cons_zero, List.set_cons_succ, List.length_cons, List.length_nil, List.length_set, List.map_cons, List.map_nil, List.cons_append, List.nil_append, List.append_nil, Option.bind_some, Option.map_some, Nat.reduceAdd, Nat.reduceLT, Nat.reduceSucc, Nat.zero_lt_succ, Nat.lt_add_left_iff_pos, eq_self, and_self, true_and, and_true, if_true_, if_false_, Int.toNat_natCast, ite_true, ite_false, Bool.not_true, Bool.not_false, Bool.false_eq_true, decide_true, decide_false, wpO_some, turn_nx, turn_ct, turn_bk, reduceCtorEq, Nat.succ_pos, Nat.succ_lt_succ_iff, arr_map]
    exact isRt_ok
end
def oD : Option Nat → D
  | none => .non
  | some d => .int (d : Nat)
theorem oD_upd (n : Nat) (g : Nat → Option Nat) (i k : Nat) : arr n (upd1 (fun v => oD (g v)) i (.int (k : Nat))) = arr n fun v => oD (upd1 g i (some k) v) := by
  refine arr_congr fun j hj => ?_
  unfold upd1
  split <;> rfl
def fold1 (k : Nat) (g : Nat → Option Nat) (os : List Nat) : (Nat → Option Nat) × List Nat := os.foldl (visit (k + 1)) (g, [])
theorem fold1_one (k : Nat) (g : Nat → Option Nat) (os : List Nat) (o : Nat) : fold1 k g (os ++ [o]) = visit (k + 1) (fold1 k g os) o := by
  unfold fold1; rw [List.foldl_append]; rfl
theorem fold1_len {n k : Nat} {g : Nat → Option Nat} {os : List Nat} (h : ∀ o ∈ os, o < n) : (fold1 k g os).2.length ≤ n := by
  obtain ⟨_, b, c⟩ := visits (far := k + 1) os g [] (by simp) (by simp)
  have := nodup_le _ (List.range n) c fun v hv => by
    rcases (b v).mp hv with hv | ⟨_, hv⟩
    · cases hv
    · exact List.mem_range.mpr (h v hv)
  rwa [List.length_range] at this
theorem distances_from_c {n : Nat} (hn : n ≤ 60) {L : Es} {nb : Nat → List Nat} (hw : Within L n) (hb : ∀ i, i < n → ∀ j, j ∈ nb i ↔ Adj L i j) {u : Nat} (hu : u < n) :
    ∃ g : Nat → Option Nat, (∀ v d, g v = some d ↔ Dist L u v d) ∧ callV F_distances_from [.lst (nearA n nb), .int (u : Int)] = .ok (.lst (arr n fun v => oD (g v))) := by
  have hbn : ∀ i, i < n → ∀ j ∈ nb i, j < n := fun i hi j hj => (hw.adj ((hb i hi j).mp hj)).2
  suffices h : Wp (m_distances_from [.val (.lst (nearA n nb)), .val (.int (u : Int)), .un, .un, .un, .un, .un, .un]) fun r => ∃ g : Nat → Option Nat, (∀ v d, g v = some d ↔ Dist L u v d) ∧ isRt (.lst (arr n fun v => oD (g v))) r by
    obtain ⟨g, h1, h2⟩ := h
    exact ⟨g, h1, cv_rt (nl := 6) (m := m_distances_from) h2⟩
  unfold m_distances_from
  simp -implicitDefEqProofs only [v_pVar', v_pVarQ', v_pVarR', k_v, k_vq, k_vr, k_oq, k_or, k_or2, k_vVal, k_vFr, k_par, k_set, k_aug, k_own, k_retF, k_ix, k_ix2, k_ixL, oR_s, k_app2, k_app, k_pop3, k_pop2, k_pop, k_apL2, k_apL1, k_apL, k_cal, k_calR, k_calO, k_ch1, k_ch2, k_lst, k_fldV, k_fldO, v_setF, v_pC, v_p1, v_p2, v_p3, v_aNil, v_aCons, v_pA, v_b1, v_asB, v_bAnd, v_bOr, v_bNot, v_pIf, v_pAndK, v_pOrK, v_liftE, v_e1, v_e2, v_bNil, v_bCons, v_eA, v_vNil, v_vVal, v_vFr, v_liftB, v_q1, v_qAnd, v_qOr, v_qNot, v_eIf, v_gVar, v_gTupD, v_gsNil, v_gsCons, v_pIxLL, v_gIx, v_gIx2, v_sNext, v_sNever, v_sRetN, v_sRet, v_sRetE, v_sRetF, v_sExpr, v_sExprE, v_sIf, v_sIfE, v_seq, v_asg, v_asgE, v_own, v_ownG, v_par, v_aug, v_putNil, v_putV, v_putF, v_iAdd, v_pSl, v_oNone, v_oSome, v_eApp, v_ePop, v_eAppLL, v_eCallO, v_callO, v_i1, v_pM1, v_pChain, v_pIndex, v_aLen, v_aApp, v_pFrz, v_pAO, v_gLst, v_frz0, v_frz0l, v_frzO, v_frz1, v_frzV, v_frzU, R.bind_ok, RE.bind_ok, RE.seq_ok, R.seq_ok, R.seqB_ok, RE.bindA_ok, RA.bind_ok, RA.bindE_ok, RV.bind_ok, RB.bind_ok, RB.bindE_ok, RB.seq_ok, RE.bindB_ok, upB_ok, up_ok, RS.then_nx, RS.then_rt, RS.then_rtO, RS.then_ct, RS.then_bk, o_eqI, o_neI, o_eqB, o_or1, o_or2, o_or3, o_and1, o_and2, o_and3, Int.cast_ofNat_Int, Int.reduceEq, Int.reduceLT, Int.reduceLE, Int.reduceAdd, Int.reduceSub, Int.reduceMul, Int.reduceNeg, o_add, o_sub, o_lt, o_le, o_gt, o_ge, o_int, o_abs, o_lenL, o_lenT, o_lenS, o_isN, o_isnN, n_non, n_int, n_str, n_bl, n_tup, n_lst, n_ins, o_mkT0, o_mkT1, o_mkT2, o_mkT3, o_mkL0, o_mkL1, o_mkL2, o_mkL3, o_maxD, o_minD, o_revT, o_revL, o_ixT0, o_ixT1, o_ixT2, o_isL, o_tupL, o_tupT, o_not, o_neg, ok_match, ok_match2, kt_int, kt_str, kt_bl, kt_tup, kt_lst, kt_non, kt_some, i_enumT, i_enumL, i_lst, i_tup, i_scr, List.getElem?_cons_zero, List.getElem?_cons_succ, List.set_cons_zero, List.set_cons_succ, List.length_cons, List.length_nil, List.length_set, List.map_cons, List.map_nil, List.cons_append, List.nil_append, List.append_nil, Option.bind_some, Option.map_some, Nat.reduceAdd, Nat.reduceLT, Nat.reduceSucc, Nat.zero_lt_succ, Nat.lt_add_left_iff_pos, eq_self, and_self, true_and, and_true, if_true_, if_false_, Int.toNat_natCast, ite_true, ite_false, Bool.not_true, Bool.not_false, Bool.false_eq_true, decide_true, decide_false, wpO_some, turn_nx, turn_ct, turn_bk, reduceCtorEq, Nat.succ_pos, Nat.succ_lt_succ_iff]
  rw [pLc_map (fun i : Nat => .lst (nA (nb i))) (fun _ => .non) (List.range n) rfl]
  rotate_left
  · intro i hi; exact ⟨_, rfl, rfl, rfl⟩
  · rw [List.length_range]; omega
  simp -implicitDefEqProofs only [v_pVar', v_pVarQ', v_pVarR', k_v, k_vq, k_vr, k_oq, k_or, k_or2, k_vVal, k_vFr, k_par, k_set, k_aug, k_own, k_retF, k_ix, k_ix2, k_ixL, oR_s, k_app2, k_app, k_pop3, k_pop2, k_pop, k_apL2, k_apL1, k_apL, k_cal, k_calR, k_calO, k_ch1, k_ch2, k_lst, k_fldV, k_fldO, v_setF, v_pC, v_p1, v_p2, v_p3, v_aNil, v_aCons, v_pA, v_b1, v_asB, v_bAnd, v_bOr, v_bNot, v_pIf, v_pAndK, v_pOrK, v_liftE, v_e1, v_e2, v_bNil, v_bCons, v_eA, v_vNil, v_vVal, v_vFr, v_liftB, v_q1, v_qAnd, v_qOr, v_qNot, v_eIf, v_gVar, v_gTupD, v_gsNil, v_gsCons, v_pIxLL, v_gIx, v_gIx2, v_sNext, v_sNever, v_sRetN, v_sRet, v_sRetE, v_sRetF, v_sExpr, v_sExprE, v_sIf, v_sIfE, v_seq, v_asg, v_asgE, v_own, v_ownG, v_par, v_aug, v_putNil, v_putV, v_putF, v_iAdd, v_pSl, v_oNone, v_oSome, v_eApp, v_ePop, v_eAppLL, v_eCallO, v_callO, v_i1, v_pM1, v_pChain, v_pIndex, v_aLen, v_aApp, v_pFrz, v_pAO, v_gLst, v_frz0, v_frz0l, v_frzO, v_frz1, v_frzV, v_frzU, R.bind_ok, RE.bind_ok, RE.seq_ok, R.seq_ok, R.seqB_ok, RE.bindA_ok, RA.bind_ok, RA.bindE_ok, RV.bind_ok, RB.bind_ok, RB.bindE_ok, RB.seq_ok, RE.bindB_ok, upB_ok, up_ok, RS.then_nx, RS.then_rt, RS.then_rtO, RS.then_ct, RS.then_bk, o_eqI, o_neI, o_eqB, o_or1, o_or2, o_or3, o_and1, o_and2, o_and3, Int.cast_ofNat_Int, Int.reduceEq, Int.reduceLT, Int.reduceLE, Int.reduceAdd, Int.reduceSub, Int.reduceMul, Int.reduceNeg, o_add, o_sub, o_lt, o_le, o_gt, o_ge, o_int, o_abs, o_lenL, o_lenT, o_lenS, o_isN, o_isnN, n_non, n_int, n_str, n_bl, n_tup, n_lst, n_ins, o_mkT0, o_mkT1, o_mkT2, o_mkT3, o_mkL0, o_mkL1, o_mkL2, o_mkL3, o_maxD, o_minD, o_revT, o_revL, o_ixT0, o_ixT1, o_ixT2, o_isL, o_tupL, o_tupT, o_not, o_neg, ok_match, ok_match2, kt_int, kt_str, kt_bl, kt_tup, kt_lst, kt_non, kt_some, i_enumT, i_enumL, i_lst, i_tup, i_scr, List.getElem?_cons_zero, List.getElem?_cons_succ, List.set_cons_zero, List.set_cons_succ, List.length_cons, List.length_nil, List.length_set, List.map_cons, List.map_nil, List.cons_append, List.nil_append, List.append_nil, Option.bind_some, Option.map_some, Nat.reduceAdd, Nat.reduceLT, Nat.reduceSucc, Nat.zero_lt_succ, Nat.lt_add_left_iff_pos, eq_self, and_self, true_and, and_true, if_true_, if_false_, Int.toNat_natCast, ite_true, ite_false, Bool.not_true, Bool.not_false, Bool.false_eq_true, decide_true, decide_false, wpO_some, turn_nx, turn_ct, turn_bk, reduceCtorEq, Nat.succ_pos, Nat.succ_lt_succ_iff, arr_range, arr_len, ixN_nat hu, arr_set]
  refine wp_while (fun k ρ => ∃ g row s1 s2 s3, Lev L u k g row ∧ k ≤ n ∧ ρ = [.val (.lst (nearA n nb)), .val (.int (u : Int)), .own 0 (.lst (arr n fun v => oD (g v))), .val (.lst (nA row)), .val (.int (k : Nat)), s1, s2, s3]) ?_ ?_ ?_
  · rintro k ρ ⟨g, row, _, _, _, _, h, _⟩; omega
  · rw [show arr n (upd1 (fun _ => D.non) u (.int 0)) = arr n fun v => oD (upd1 (fun _ => none) u (some 0) v) from oD_upd n (fun _ => none) u 0]
    exact ⟨_, [u], _, _, _, Lev.start L u, Nat.zero_le _, rfl⟩
  · rintro k _ ⟨g, row, s1, s2, s3, lev, hk, rfl⟩
    have hrn : ∀ p ∈ row, p < n := fun p hp => ((lev.r p).mp hp).w.lt hw hu
    cases row with
    | nil =>
      refine .inl ⟨?_, ?_⟩
      · show (b1 asB (p2 neD (pVar 3) (p1 isL (pA mkL aNil)))) _ = _
        simp -implicitDefEqProofs only [v_pVar', v_pVarQ', v_pVarR', k_v, k_vq, k_vr, k_oq, k_or, k_or2, k_vVal, k_vFr, k_par, k_set, k_aug, k_own, k_retF, k_ix, k_ix2, k_ixL, oR_s, k_app2, k_app, k_pop3, k_pop2, k_pop, k_apL2, k_apL1, k_apL, k_cal, k_calR, k_calO, k_ch1, k_ch2, k_lst, k_fldV, k_fldO, v_setF, v_pC, v_p1, v_p2, v_p3, v_aNil, v_aCons, v_pA, v_b1, v_asB, v_bAnd, v_bOr, v_bNot, v_pIf, v_pAndK, v_pOrK, v_liftE, v_e1, v_e2, v_bNil, v_bCons, v_eA, v_vNil, v_vVal, v_vFr, v_liftB, v_q1, v_qAnd, v_qOr, v_qNot, v_eIf, v_gVar, v_gTupD, v_gsNil, v_gsCons, v_pIxLL, v_gIx, v_gIx2, v_sNext, v_sNever, v_sRetN, v_sRet, v_sRetE, v_sRetF, v_sExpr, v_sExprE, v_sIf, v_sIfE, v_seq, v_asg, v_asgE, v_own, v_ownG, v_par, v_aug, v_putNil, v_putV, v_putF, v_iAdd, v_pSl, v_oNone, v_oSome, v_eApp, v_ePop, v_eAppLL, v_eCallO, v_callO, v_i1, v_pM1, v_pChain, v_pIndex, v_aLen, v_aApp, v_pFrz, v_pAO, v_gLst, v_frz0, v_frz0l, v_frzO, v_frz1, v_frzV, v_frzU, R.bind_ok, RE.bind_ok, RE.seq_ok, R.seq_ok, R.seqB_ok, RE.bindA_ok, RA.bind_ok, RA.bindE_ok, RV.bind_ok, RB.bind_ok, RB.bindE_ok, RB.seq_ok, RE.bindB_ok, upB_ok, up_ok, RS.then_nx, RS.then_rt, RS.then_rtO, RS.then_ct, RS.then_bk, o_eqI, o_neI, o_eqB, o_or1, o_or2, o_or3, o_and1, o_and2, o_and3, Int.cast_ofNat_Int, Int.reduceEq, Int.reduceLT, Int.reduceLE, Int.reduceAdd, Int.reduceSub, Int.reduceMul, Int.reduceNeg, o_add, o_sub, o_lt, o_le, o_gt, o_ge, o_int, o_abs, o_lenL, o_lenT, o_lenS, o_isN, o_isnN, n_non, n_int, n_str, n_bl, n_tup, n_lst, n_ins, o_mkT0, o_mkT1, o_mkT2, o_mkT3, o_mkL0, o_mkL1, o_mkL2, o_mkL3, o_maxD, o_minD, o_revT, o_revL, o_ixT0, o_ixT1, o_ixT2, o_isL, o_tupL, o_tupT, o_not, o_neg, ok_match, ok_match2, kt_int, kt_str, kt_bl, kt_tup, kt_lst, kt_non, kt_some, i_enumT, i_enumL, i_lst, i_tup, i_scr, List.getElem?_cons_zero, List.getElem?_cons_succ, List.set_cons_zero, List.set_cons_succ, List.length_cons, List.length_nil, List.length_set, List.map_cons, List.map_nil, List.cons_append, List.nil_append, List.append_nil, Option.bind_some, Option.map_some, Nat.reduceAdd, Nat.reduceLT, Nat.reduceSucc, Nat.zero_lt_succ, Nat.lt_add_left_iff_pos, eq_self, and_self, true_and, and_true, if_true_, if_false_, Int.toNat_natCast, ite_true, ite_false, Bool.not_true, Bool.not_false, Bool.false_eq_true, decide_true, decide_false, wpO_some, turn_nx, turn_ct, turn_bk, reduceCtorEq, Nat.succ_pos, Nat.succ_lt_succ_iff, ne_lst0, nA]
      · simp -implicitDefEqProofs only [v_pVar', v_pVarQ', v_pVarR', k_v, k_vq, k_vr, k_oq, k_or, k_or2, k_vVal, k_vFr, k_par, k_set, k_aug, k_own, k_retF, k_ix, k_ix2, k_ixL, oR_s, k_app2, k_app, k_pop3, k_pop2, k_pop, k_apL2, k_apL1, k_apL, k_cal, k_calR, k_calO, k_ch1, k_ch2, k_lst, k_fldV, k_fldO, v_setF, v_pC, v_p1, v_p2, v_p3, v_aNil, v_aCons, v_pA, v_b1, v_asB, v_bAnd, v_bOr, v_bNot, v_pIf, v_pAndK, v_pOrK, v_liftE, v_e1, v_e2, v_bNil, v_bCons, v_eA, v_vNil, v_vVal, v_vFr, v_liftB, v_q1, v_qAnd, v_qOr, v_qNot, v_eIf, v_gVar, v_gTupD, v_gsNil, v_gsCons, v_pIxLL, v_gIx, v_gIx2, v_sNext, v_sNever, v_sRetN, v_sRet, v_sRetE, v_sRetF, v_sExpr, v_sExprE, v_sIf, v_sIfE, v_seq, v_asg, v_asgE, v_own, v_ownG, v_par, v_aug, v_putNil, v_putV, v_putF, v_iAdd, v_pSl, v_oNone, v_oSome, v_eApp, v_ePop, v_eAppLL, v_eCallO, v_callO, v_i1, v_pM1, v_pChain, v_pIndex, v_aLen, v_aApp, v_pFrz, v_pAO, v_gLst, v_frz0, v_frz0l, v_frzO, v_frz1, v_frzV, v_frzU, R.bind_ok, RE.bind_ok, RE.seq_ok, R.seq_ok, R.seqB_ok, RE.bindA_ok, RA.bind_ok, RA.bindE_ok, RV.bind_ok, RB.bind_ok, RB.bindE_ok, RB.seq_ok, RE.bindB_ok, upB_ok, up_ok, RS.then_nx, RS.then_rt, RS.then_rtO, RS.then_ct, RS.then_bk, o_eqI, o_neI, o_eqB, o_or1, o_or2, o_or3, o_and1, o_and2, o_and3, Int.cast_ofNat_Int, Int.reduceEq, Int.reduceLT, Int.reduceLE, Int.reduceAdd, Int.reduceSub, Int.reduceMul, Int.reduceNeg, o_add, o_sub, o_lt, o_le, o_gt, o_ge, o_int, o_abs, o_lenL, o_lenT, o_lenS, o_isN, o_isnN, n_non, n_int, n_str, n_bl, n_tup, n_lst, n_ins, o_mkT0, o_mkT1, o_mkT2, o_mkT3, o_mkL0, o_mkL1, o_mkL2, o_mkL3, o_maxD, o_minD, o_revT, o_revL, o_ixT0, o_ixT1, o_ixT2, o_isL, o_tupL, o_tupT, o_not, o_neg, ok_match, ok_match2, kt_int, kt_str, kt_bl, kt_tup, kt_lst, kt_non, kt_some, i_enumT, i_enumL, i_lst, i_tup, i_scr, List.getElem?_cons_zero, List.getElem?_cons_succ, List.set_cons_zero, List.set_cons_succ, List.length_cons, List.length_nil, List.length_set, List.map_cons, List.map_nil, List.cons_append, List.nil_append, List.append_nil, Option.bind_some, Option.map_some, Nat.reduceAdd, Nat.reduceLT, Nat.reduceSucc, Nat.zero_lt_succ, Nat.lt_add_left_iff_pos, eq_self, and_self, true_and, and_true, if_true_, if_false_, Int.toNat_natCast, ite_true, ite_false, Bool.not_true, Bool.not_false, Bool.false_eq_true, decide_true, decide_false, wpO_some, turn_nx, turn_ct, turn_bk, reduceCtorEq, Nat.succ_pos, Nat.succ_lt_succ_iff]
        exact ⟨g, fun v d => lev.last v d, isRt_ok⟩
    | cons p0 row0 =>
      have hlt : k < n := lev.lt hw hu (by simp)
      generalize hrow : p0 :: row0 = row at *
      refine .inr ⟨?_, ?_⟩
      · have := ne_lstc (k := 0) (x := .int (p0 : Nat)) (xs := nA row0) (fun y hy => by
          rcases List.mem_cons.mp hy with rfl | hy
          · exact sd_int _
          · obtain ⟨z, _, rfl⟩ := List.mem_map.mp hy
            exact sd_int _) (by omega)
        have e : nA row = .int (p0 : Nat) :: nA row0 := by rw [← hrow]; rfl
        simp -implicitDefEqProofs only [v_pVar', v_pVarQ', v_pVarR', k_v, k_vq, k_vr, k_oq, k_or, k_or2, k_vVal, k_vFr, k_par, k_set, k_aug, k_own, k_retF, k_ix, k_ix2, k_ixL, oR_s, k_app2, k_app, k_pop3, k_pop2, k_pop, k_apL2, k_apL1, k_apL, k_cal, k_calR, k_calO, k_ch1, k_ch2, k_lst, k_fldV, k_fldO, v_setF, v_pC, v_p1, v_p2, v_p3, v_aNil, v_aCons, v_pA, v_b1, v_asB, v_bAnd, v_bOr, v_bNot, v_pIf, v_pAndK, v_pOrK, v_liftE, v_e1, v_e2, v_bNil, v_bCons, v_eA, v_vNil, v_vVal, v_vFr, v_liftB, v_q1, v_qAnd, v_qOr, v_qNot, v_eIf, v_gVar, v_gTupD, v_gsNil, v_gsCons, v_pIxLL, v_gIx, v_gIx2, v_sNext, v_sNever, v_sRetN, v_sRet, v_sRetE, v_sRetF, v_sExpr, v_sExprE, v_sIf, v_sIfE, v_seq, v_asg, v_asgE, v_own, v_ownG, v_par, v_aug, v_putNil, v_putV, v_putF, v_iAdd, v_pSl, v_oNone, v_oSome, v_eApp, v_ePop, v_eAppLL, v_eCallO, v_callO, v_i1, v_pM1, v_pChain, v_pIndex, v_aLen, v_aApp, v_pFrz, v_pAO, v_gLst, v_frz0, v_frz0l, v_frzO, v_frz1, v_frzV, v_frzU, R.bind_ok, RE.bind_ok, RE.seq_ok, R.seq_ok, R.seqB_ok, RE.bindA_ok, RA.bind_ok, RA.bindE_ok, RV.bind_ok, RB.bind_ok, RB.bindE_ok, RB.seq_ok, RE.bindB_ok, upB_ok, up_ok, RS.then_nx, RS.then_rt, RS.then_rtO, RS.then_ct, RS.then_bk, o_eqI, o_neI, o_eqB, o_or1, o_or2, o_or3, o_and1, o_and2, o_and3, Int.cast_ofNat_Int, Int.reduceEq, Int.reduceLT, Int.reduceLE, Int.reduceAdd, Int.reduceSub, Int.reduceMul, Int.reduceNeg, o_add, o_sub, o_lt, o_le, o_gt, o_ge, o_int, o_abs, o_lenL, o_lenT, o_lenS, o_isN, o_isnN, n_non, n_int, n_str, n_bl, n_tup, n_lst, n_ins, o_mkT0, o_mkT1, o_mkT2, o_mkT3, o_mkL0, o_mkL1, o_mkL2, o_mkL3, o_maxD, o_minD, o_revT, o_revL, o_ixT0, o_ixT1, o_ixT2, o_isL, o_tupL, o_tupT, o_not, o_neg, ok_match, ok_match2, kt_int, kt_str, kt_bl, kt_tup, kt_lst, kt_non, kt_some, i_enumT, i_enumL, i_lst, i_tup, i_scr, List.getElem?_cons_zero, List.getElem?_cons_succ, List.set_cons_zero, List.set_cons_succ, List.length_cons, List.length_nil, List.length_set, List.map_cons, List.map_nil, List.cons_append, List.nil_append, List.append_nil, Option.bind_some, Option.map_some, Nat.reduceAdd, Nat.reduceLT, Nat.reduceSucc, Nat.zero_lt_succ, Nat.lt_add_left_iff_pos, eq_self, and_self, true_and, and_true, if_true_, if_false_, Int.toNat_natCast, ite_true, ite_false, Bool.not_true, Bool.not_false, Bool.false_eq_true, decide_true, decide_false, wpO_some, turn_nx, turn_ct, turn_bk, reduceCtorEq, Nat.succ_pos, Nat.succ_lt_succ_iff, e, this]
      · simp -implicitDefEqProofs only [v_pVar', v_pVarQ', v_pVarR', k_v, k_vq, k_vr, k_oq, k_or, k_or2, k_vVal, k_vFr, k_par, k_set, k_aug, k_own, k_retF, k_ix, k_ix2, k_ixL, oR_s, k_app2, k_app, k_pop3, k_pop2, k_pop, k_apL2, k_apL1, k_apL, k_cal, k_calR, k_calO, k_ch1, k_ch2, k_lst, k_fldV, k_fldO, v_setF, v_pC, v_p1, v_p2, v_p3, v_aNil, v_aCons, v_pA, v_b1, v_asB, v_bAnd, v_bOr, v_bNot, v_pIf, v_pAndK, v_pOrK, v_liftE, v_e1, v_e2, v_bNil, v_bCons, v_eA, v_vNil, v_vVal, v_vFr, v_liftB, v_q1, v_qAnd, v_qOr, v_qNot, v_eIf, v_gVar, v_gTupD, v_gsNil, v_gsCons, v_pIxLL, v_gIx, v_gIx2, v_sNext, v_sNever, v_sRetN, v_sRet, v_sRetE, v_sRetF, v_sExpr, v_sExprE, v_sIf, v_sIfE, v_seq, v_asg, v_asgE, v_own, v_ownG, v_par, v_aug, v_putNil, v_putV, v_putF, v_iAdd, v_pSl, v_oNone, v_oSome, v_eApp, v_ePop, v_eAppLL, v_eCallO, v_callO, v_i1, v_pM1, v_pChain, v_pIndex, v_aLen, v_aApp, v_pFrz, v_pAO, v_gLst, v_frz0, v_frz0l, v_frzO, v_frz1, v_frzV, v_frzU, R.bind_ok, RE.bind_ok, RE.seq_ok, R.seq_ok, R.seqB_ok, RE.bindA_ok, RA.bind_ok, RA.bindE_ok, RV.bind_ok, RB.bind_ok, RB.bindE_ok, RB.seq_ok, RE.bindB_ok, upB_ok, up_ok, RS.then_nx, RS.then_rt, RS.then_rtO, RS.then_ct, RS.then_bk, o_eqI, o_neI, o_eqB, o_or1, o_or2, o_or3, o_and1, o_and2, o_and3, Int.cast_ofNat_Int, Int.reduceEq, Int.reduceLT, Int.reduceLE, Int.reduceAdd, Int.reduceSub, Int.reduceMul, Int.reduceNeg, o_add, o_sub, o_lt, o_le, o_gt, o_ge, o_int, o_abs, o_lenL, o_lenT, o_lenS, o_isN, o_isnN, n_non, n_int, n_str, n_bl, n_tup, n_lst, n_ins, o_mkT0, o_mkT1, o_mkT2, o_mkT3, o_mkL0, o_mkL1, o_mkL2, o_mkL3, o_maxD, o_minD, o_revT, o_revL, o_ixT0, o_ixT1, o_ixT2, o_isL, o_tupL, o_tupT, o_not, o_neg, ok_match, ok_match2, kt_int, kt_str, kt_bl, kt_tup, kt_lst, kt_non, kt_some, i_enumT, i_enumL, i_lst, i_tup, i_scr, List.getElem?_cons_zero, List.getElem?_cons_succ, List.set_cons_zero, List.set_cons_succ, List.length_cons, List.length_nil, List.length_set, List.map_cons, List.map_nil, List.cons_append, List.nil_append, List.append_nil, Option.bind_some, Option.map_some, Nat.reduceAdd, Nat.reduceLT, Nat.reduceSucc, Nat.zero_lt_succ, Nat.lt_add_left_iff_pos, eq_self, and_self, true_and, and_true, if_true_, if_false_, Int.toNat_natCast, ite_true, ite_false, Bool.not_true, Bool.not_false, Bool.false_eq_true, decide_true, decide_false, wpO_some, turn_nx, turn_ct, turn_bk, reduceCtorEq, Nat.succ_pos, Nat.succ_lt_succ_iff]
        have ek : ((k : Nat) : Int) + 1 = ((k + 1 : Nat) : Int) := by omega
        refine wp_pre (fun k : Nat => D.int k) (fun pre ρ => ∃ s2 s3, ρ = [.val (.lst (nearA n nb)), .val (.int (u : Int)), .own 0 (.lst (arr n fun v => oD ((fold1 k g (pre.flatMap nb)).1 v))), .val (.lst (nA row)), .val (.int ((k + 1 : Nat) : Int)), .own 0 (.lst (nA (fold1 k g (pre.flatMap nb)).2)), s2, s3]) row rfl ?_ ?_ ?_
        · rw [ek]; exact ⟨_, _, rfl⟩
        · rintro pre p post _ rfl ⟨s2, s3, rfl⟩
          have hp : p < n := hrn p (by simp)
          simp -implicitDefEqProofs only [v_pVar', v_pVarQ', v_pVarR', k_v, k_vq, k_vr, k_oq, k_or, k_or2, k_vVal, k_vFr, k_par, k_set, k_aug, k_own, k_retF, k_ix, k_ix2, k_ixL, oR_s, k_app2, k_app, k_pop3, k_pop2, k_pop, k_apL2, k_apL1, k_apL, k_cal, k_calR, k_calO, k_ch1, k_ch2, k_lst, k_fldV, k_fldO, v_setF, v_pC, v_p1, v_p2, v_p3, v_aNil, v_aCons, v_pA, v_b1, v_asB, v_bAnd, v_bOr, v_bNot, v_pIf, v_pAndK, v_pOrK, v_liftE, v_e1, v_e2, v_bNil, v_bCons, v_eA, v_vNil, v_vVal, v_vFr, v_liftB, v_q1, v_qAnd, v_qOr, v_qNot, v_eIf, v_gVar, v_gTupD, v_gsNil, v_gsCons, v_pIxLL, v_gIx, v_gIx2, v_sNext, v_sNever, v_sRetN, v_sRet, v_sRetE, v_sRetF, v_sExpr, v_sExprE, v_sIf, v_sIfE, v_seq, v_asg, v_asgE, v_own, v_ownG, v_par, v_aug, v_putNil, v_putV, v_putF, v_iAdd, v_pSl, v_oNone, v_oSome, v_eApp, v_ePop, v_eAppLL, v_eCallO, v_callO, v_i1, v_pM1, v_pChain, v_pIndex, v_aLen, v_aApp, v_pFrz, v_pAO, v_gLst, v_frz0, v_frz0l, v_frzO, v_frz1, v_frzV, v_frzU, R.bind_ok, RE.bind_ok, RE.seq_ok, R.seq_ok, R.seqB_ok, RE.bindA_ok, RA.bind_ok, RA.bindE_ok, RV.bind_ok, RB.bind_ok, RB.bindE_ok, RB.seq_ok, RE.bindB_ok, upB_ok, up_ok, RS.then_nx, RS.then_rt, RS.then_rtO, RS.then_ct, RS.then_bk, o_eqI, o_neI, o_eqB, o_or1, o_or2, o_or3, o_and1, o_and2, o_and3, Int.cast_ofNat_Int, Int.reduceEq, Int.reduceLT, Int.reduceLE, Int.reduceAdd, Int.reduceSub, Int.reduceMul, Int.reduceNeg, o_add, o_sub, o_lt, o_le, o_gt, o_ge, o_int, o_abs, o_lenL, o_lenT, o_lenS, o_isN, o_isnN, n_non, n_int, n_str, n_bl, n_tup, n_lst, n_ins, o_mkT0, o_mkT1, o_mkT2, o_mkT3, o_mkL0, o_mkL1, o_mkL2, o_mkL3, o_maxD, o_minD, o_revT, o_revL, o_ixT0, o_ixT1, o_ixT2, o_isL, o_tupL, o_tupT, o_not, o_neg, ok_match, ok_match2, kt_int, kt_str, kt_bl, kt_tup, kt_lst, kt_non, kt_some, i_enumT, i_enumL, i_lst, i_tup, i_scr, List.getElem?_cons_zero, List.getElem?_cons_succ, List.set_cons_zero, List.set_cons_succ, List.length_cons, List.length_nil, List.length_set, List.map_cons, List.map_nil, List.cons_append, List.nil_append, List.append_nil, Option.bind_some, Option.map_some, Nat.reduceAdd, Nat.reduceLT, Nat.reduceSucc, Nat.zero_lt_succ, Nat.lt_add_left_iff_pos, eq_self, and_self, true_and, and_true, if_true_, if_false_, Int.toNat_natCast, ite_true, ite_false, Bool.not_true, Bool.not_false, Bool.false_eq_true, decide_true, decide_false, wpO_some, turn_nx, turn_ct, turn_bk, reduceCtorEq, Nat.succ_pos, Nat.succ_lt_succ_iff]
          refine wp_end ?_
          refine wp_pre (fun k : Nat => D.int k) (fun pre2 ρ => ∃ s3, ρ = [.val (.lst (nearA n nb)), .val (.int (u : Int)), .own 0 (.lst (arr n fun v => oD ((fold1 k g (pre.flatMap nb ++ pre2)).1 v))), .val (.lst (nA (pre ++ p :: post))), .val (.int ((k + 1 : Nat) : Int)), .own 0 (.lst (nA (fold1 k g (pre.flatMap nb ++ pre2)).2)), .val (.int p), s3]) (nb p) ?_ ?_ ?_ ?_
          · simp -implicitDefEqProofs only [v_pVar', v_pVarQ', v_pVarR', k_v, k_vq, k_vr, k_oq, k_or, k_or2, k_vVal, k_vFr, k_par, k_set, k_aug, k_own, k_retF, k_ix, k_ix2, k_ixL, oR_s, k_app2, k_app, k_pop3, k_pop2, k_pop, k_apL2, k_apL1, k_apL, k_cal, k_calR, k_calO, k_ch1, k_ch2, k_lst, k_fldV, k_fldO, v_setF, v_pC, v_p1, v_p2, v_p3, v_aNil, v_aCons, v_pA, v_b1, v_asB, v_bAnd, v_bOr, v_bNot, v_pIf, v_pAndK, v_pOrK, v_liftE, v_e1, v_e2, v_bNil, v_bCons, v_eA, v_vNil, v_vVal, v_vFr, v_liftB, v_q1, v_qAnd, v_qOr, v_qNot, v_eIf, v_gVar, v_gTupD, v_gsNil, v_gsCons, v_pIxLL, v_gIx, v_gIx2, v_sNext, v_sNever, v_sRetN, v_sRet, v_sRetE, v_sRetF, v_sExpr, v_sExprE, v_sIf, v_sIfE, v_seq, v_asg, v_asgE, v_own, v_ownG, v_par, v_aug, v_putNil, v_putV, v_putF, v_iAdd, v_pSl, v_oNone, v_oSome, v_eApp, v_ePop, v_eAppLL, v_eCallO, v_callO, v_i1, v_pM1, v_pChain, v_pIndex, v_aLen, v_aApp, v_pFrz, v_pAO, v_gLst, v_frz0, v_frz0l, v_frzO, v_frz1, v_frzV, v_frzU, R.bind_ok, RE.bind_ok, RE.seq_ok, R.seq_ok, R.seqB_ok, RE.bindA_ok, RA.bind_ok, RA.bindE_ok, RV.bind_ok, RB.bind_ok, RB.bindE_ok, RB.seq_ok, RE.bindB_ok, upB_ok, up_ok, RS.then_nx, RS.then_rt, RS.then_rtO, RS.then_ct, RS.then_bk, o_eqI, o_neI, o_eqB, o_or1, o_or2, o_or3, o_and1, o_and2, o_and3, Int.cast_ofNat_Int, Int.reduceEq, Int.reduceLT, Int.reduceLE, Int.reduceAdd, Int.reduceSub, Int.reduceMul, Int.reduceNeg, o_add, o_sub, o_lt, o_le, o_gt, o_ge, o_int, o_abs, o_lenL, o_lenT, o_lenS, o_isN, o_isnN, n_non, n_int, n_str, n_bl, n_tup, n_lst, n_ins, o_mkT0, o_mkT1, o_mkT2, o_mkT3, o_mkL0, o_mkL1, o_mkL2, o_mkL3, o_maxD, o_minD, o_revT, o_revL, o_ixT0, o_ixT1, o_ixT2, o_isL, o_tupL, o_tupT, o_not, o_neg, ok_match, ok_match2, kt_int, kt_str, kt_bl, kt_tup, kt_lst, kt_non, kt_some, i_enumT, i_enumL, i_lst, i_tup, i_scr, List.getElem?_cons_zero, List.getElem?_cons_succ, List.set_cons_zero, List.set_cons_succ, List.length_cons, List.length_nil, List.length_set, List.map_cons, List.map_nil, List.cons_append, List.nil_append, List.append_nil, Option.bind_some, Option.map_some, Nat.reduceAdd, Nat.reduceLT, Nat.reduceSucc, Nat.zero_lt_succ, Nat.lt_add_left_iff_pos, eq_self, and_self, true_and, and_true, if_true_, if_false_, Int.toNat_natCast, ite_true, ite_false, Bool.not_true, Bool.not_false, Bool.false_eq_true, decide_true, decide_false, wpO_some, turn_nx, turn_ct, turn_bk, reduceCtorEq, Nat.succ_pos, Nat.succ_lt_succ_iff, nearA, ix_arrL hp]; rfl
          · exact ⟨_, by rw [List.append_nil]⟩
          · rintro pre2 o post2 _ hsp ⟨s3, rfl⟩
            have ho : o < n := hbn p hp o (by rw [hsp]; simp)
            have all : ∀ x ∈ pre.flatMap nb ++ pre2, x < n := by
              intro x hx
              rcases List.mem_append.mp hx with hx | hx
              · obtain ⟨q, hq, hx⟩ := List.mem_flatMap.mp hx
                exact hbn q (hrn q (by simp [hq])) x hx
              · exact hbn p hp x (by rw [hsp]; simp [hx])
            have ln := fold1_len (k := k) (g := g) all
            rw [← List.append_assoc, fold1_one]
            generalize fold1 k g (pre.flatMap nb ++ pre2) = st at *
            obtain ⟨g2, l2⟩ := st
            have lz : (nA l2).length < sizeLine := by rw [nA_len]; exact lt_size (by dsimp only at ln; omega)
            have a1 := ix_arrL (g := fun v => oD (g2 v)) ho
            unfold visit
            dsimp only
            cases q : g2 o with
            | none =>
              rw [q] at a1
              have e : oD none = .non := rfl
              simp -implicitDefEqProofs only [v_pVar', v_pVarQ', v_pVarR', k_v, k_vq, k_vr, k_oq, k_or, k_or2, k_vVal, k_vFr, k_par, k_set, k_aug, k_own, k_retF, k_ix, k_ix2, k_ixL, oR_s, k_app2, k_app, k_pop3, k_pop2, k_pop, k_apL2, k_apL1, k_apL, k_cal, k_calR, k_calO, k_ch1, k_ch2, k_lst, k_fldV, k_fldO, v_setF, v_pC, v_p1, v_p2, v_p3, v_aNil, v_aCons, v_pA, v_b1, v_asB, v_bAnd, v_bOr, v_bNot, v_pIf, v_pAndK, v_pOrK, v_liftE, v_e1, v_e2, v_bNil, v_bCons, v_eA, v_vNil, v_vVal, v_vFr, v_liftB, v_q1, v_qAnd, v_qOr, v_qNot, v_eIf, v_gVar, v_gTupD, v_gsNil, v_gsCons, v_pIxLL, v_gIx, v_gIx2, v_sNext, v_sNever, v_sRetN, v_sRet, v_sRetE, v_sRetF, v_sExpr, v_sExprE, v_sIf, v_sIfE, v_seq, v_asg, v_asgE, v_own, v_ownG, v_par, v_aug, v_putNil, v_putV, v_putF, v_iAdd, v_pSl, v_oNone, v_oSome, v_eApp, v_ePop, v_eAppLL, v_eCallO, v_callO, v_i1, v_pM1, v_pChain, v_pIndex, v_aLen, v_aApp, v_pFrz, v_pAO, v_gLst, v_frz0, v_frz0l, v_frzO, v_frz1, v_frzV, v_frzU, R.bind_ok, RE.bind_ok, RE.seq_ok, R.seq_ok, R.seqB_ok, RE.bindA_ok, RA.bind_ok, RA.bindE_ok, RV.bind_ok, RB.bind_ok, RB.bindE_ok, RB.seq_ok, RE.bindB_ok, upB_ok, up_ok, RS.then_nx, RS.then_rt, RS.then_rtO, RS.then_ct, RS.then_bk, o_eqI, o_neI, o_eqB, o_or1, o_or2, o_or3, o_and1, o_and2, o_and3, Int.cast_ofNat_Int, Int.reduceEq, Int.reduceLT, Int.reduceLE, Int.reduceAdd, Int.reduceSub, Int.reduceMul, Int.reduceNeg, o_add, o_sub, o_lt, o_le, o_gt, o_ge, o_int, o_abs, o_lenL, o_lenT, o_lenS, o_isN, o_isnN, n_non, n_int, n_str, n_bl, n_tup, n_lst, n_ins, o_mkT0, o_mkT1, o_mkT2, o_mkT3, o_mkL0, o_mkL1, o_mkL2, o_mkL3, o_maxD, o_minD, o_revT, o_revL, o_ixT0, o_ixT1, o_ixT2, o_isL, o_tupL, o_tupT, o_not, o_neg, ok_match, ok_match2, kt_int, kt_str, kt_bl, kt_tup, kt_lst, kt_non, kt_some, i_enumT, i_enumL, i_lst, i_tup, i_scr, List.getElem?_cons_zero, List.getElem?_cons_succ, List.set_cons_zero, List.set_cons_succ, List.length_cons, List.length_nil, List.length_set, List.map_cons, List.map_nil, List.cons_append, List.nil_append, List.append_nil, Option.bind_some, Option.map_some, Nat.reduceAdd, Nat.reduceLT, Nat.reduceSucc, Nat.zero_lt_succ, Nat.lt_add_left_iff_pos, eq_self, and_self, true_and, and_true, if_true_, if_false_, Int.toNat_natCast, ite_true, ite_false, Bool.not_true, Bool.not_false, Bool.false_eq_true, decide_true, decide_false, wpO_some, turn_nx, turn_ct, turn_bk, reduceCtorEq, Nat.succ_pos, Nat.succ_lt_succ_iff, a1, e, ixN_nat ho, arr_len, arr_set, lz, nA_append, oD_upd]
              exact ⟨_, rfl⟩
            | some d =>
              rw [q] at a1
              have e : oD (some d) = .int (d : Nat) := rfl
              simp -implicitDefEqProofs only [v_pVar', v_pVarQ', v_pVarR', k_v, k_vq, k_vr, k_oq, k_or, k_or2, k_vVal, k_vFr, k_par, k_set, k_aug, k_own, k_retF, k_ix, k_ix2, k_ixL, oR_s, k_app2, k_app, k_pop3, k_pop2, k_pop, k_apL2, k_apL1, k_apL, k_cal, k_calR, k_calO, k_ch1, k_ch2, k_lst, k_fldV, k_fldO, v_setF, v_pC, v_p1, v_p2, v_p3, v_aNil, v_aCons, v_pA, v_b1, v_asB, v_bAnd, v_bOr, v_bNot, v_pIf, v_pAndK, v_pOrK, v_liftE, v_e1, v_e2, v_bNil, v_bCons, v_eA, v_vNil, v_vVal, v_vFr, v_liftB, v_q1, v_qAnd, v_qOr, v_qNot, v_eIf, v_gVar, v_gTupD, v_gsNil, v_gsCons, v_pIxLL, v_gIx, v_gIx2, v_sNext, v_sNever, v_sRetN, v_sRet, v_sRetE, v_sRetF, v_sExpr, v_sExprE, v_sIf, v_sIfE, v_seq, v_asg, v_asgE, v_own, v_ownG, v_par, v_aug, v_putNil, v_putV, v_putF, v_iAdd, v_pSl, v_oNone, v_oSome, v_eApp, v_ePop, v_eAppLL, v_eCallO, v_callO, v_i1, v_pM1, v_pChain, v_pIndex, v_aLen, v_aApp, v_pFrz, v_pAO, v_gLst, v_frz0, v_frz0l, v_frzO, v_frz1, v_frzV, v_frzU, R.bind_ok, RE.bind_ok, RE.seq_ok, R.seq_ok, R.seqB_ok, RE.bindA_ok, RA.bind_ok, RA.bindE_ok, RV.bind_ok, RB.bind_ok, RB.bindE_ok, RB.seq_ok, RE.bindB_ok, upB_ok, up_ok, RS.then_nx, RS.then_rt, RS.then_rtO, RS.then_ct, RS.then_bk, o_eqI, o_neI, o_eqB, o_or1, o_or2, o_or3, o_and1, o_and2, o_and3, Int.cast_ofNat_Int, Int.reduceEq, Int.reduceLT, Int.reduceLE, Int.reduceAdd, Int.reduceSub, Int.reduceMul, Int.reduceNeg, o_add, o_sub, o_lt, o_le, o_gt, o_ge, o_int, o_abs, o_lenL, o_lenT, o_lenS, o_isN, o_isnN, n_non, n_int, n_str, n_bl, n_tup, n_lst, n_ins, o_mkT0, o_mkT1, o_mkT2, o_mkT3, o_mkL0, o_mkL1, o_mkL2, o_mkL3, o_maxD, o_minD, o_revT, o_revL, o_ixT0, o_ixT1, o_ixT2, o_isL, o_tupL, o_tupT, o_not, o_neg, ok_match, ok_match2, kt_int, kt_str, kt_bl, kt_tup, kt_lst, kt_non, kt_some, i_enumT, i_enumL, i_lst, i_tup, i_scr, List.getElem?_cons_zero, List.getElem?_cons_succ, List.set_cons_zero, List.set_cons_succ, List.length_cons, List.length_nil, List.length_set, List.map_cons, List.map_nil, List.cons_append, List.nil_append, List.append_nil, Option.bind_some, Option.map_some, Nat.reduceAdd, Nat.reduceLT, Nat.reduceSucc, Nat.zero_lt_succ, Nat.lt_add_left_iff_pos, eq_self, and_self, true_and, and_true, if_true_, if_false_, Int.toNat_natCast, ite_true, ite_false, Bool.not_true, Bool.not_false, Bool.false_eq_true, decide_true, decide_false, wpO_some, turn_nx, turn_ct, turn_bk, reduceCtorEq, Nat.succ_pos, Nat.succ_lt_succ_iff, a1, e]
              exact ⟨_, rfl⟩
          · rintro _ ⟨s3, rfl⟩
            have ef : (pre ++ [p]).flatMap nb = pre.flatMap nb ++ nb p := by rw [List.flatMap_append]; simp
            simp -implicitDefEqProofs only [v_pVar', v_pVarQ', v_pVarR', k_v, k_vq, k_vr, k_oq, k_or, k_or2, k_vVal, k_vFr, k_par, k_set, k_aug, k_own, k_retF, k_ix, k_ix2, k_ixL, oR_s, k_app2, k_app, k_pop3, k_pop2, k_pop, k_apL2, k_apL1, k_apL, k_cal, k_calR, k_calO, k_ch1, k_ch2, k_lst, k_fldV, k_fldO, v_setF, v_pC, v_p1, v_p2, v_p3, v_aNil, v_aCons, v_pA, v_b1, v_asB, v_bAnd, v_bOr, v_bNot, v_pIf, v_pAndK, v_pOrK, v_liftE, v_e1, v_e2, v_bNil, v_bCons, v_eA, v_vNil, v_vVal, v_vFr, v_liftB, v_q1, v_qAnd, v_qOr, v_qNot, v_eIf, v_gVar, v_gTupD, v_gsNil, v_gsCons, v_pIxLL, v_gIx, v_gIx2, v_sNext, v_sNever, v_sRetN, v_sRet, v_sRetE, v_sRetF, v_sExpr, v_sExprE, v_sIf, v_sIfE, v_seq, v_asg, v_asgE, v_own, v_ownG, v_par, v_aug, v_putNil, v_putV, v_putF, v_iAdd, v_pSl, v_oNone, v_oSome, v_eApp, v_ePop, v_eAppLL, v_eCallO, v_callO, v_i1, v_pM1, v_pChain, v_pIndex, v_aLen, v_aApp, v_pFrz, v_pAO, v_gLst, v_frz0, v_frz0l, v_frzO, v_frz1, v_frzV, v_frzU, R.bind_ok, RE.bind_ok, RE.seq_ok, R.seq_ok, R.seqB_ok, RE.bindA_ok, RA.bind_ok, RA.bindE_ok, RV.bind_ok, RB.bind_ok, RB.bindE_ok, RB.seq_ok, RE.bindB_ok, upB_ok, up_ok, RS.then_nx, RS.then_rt, RS.then_rtO, RS.then_ct, RS.then_bk, o_eqI, o_neI, o_eqB, o_or1, o_or2, o_or3, o_and1, o_and2, o_and3, Int.cast_ofNat_Int, Int.reduceEq, Int.reduceLT, Int.reduceLE, Int.reduceAdd, Int.reduceSub, Int.reduceMul, Int.reduceNeg, o_add, o_sub, o_lt, o_le, o_gt, o_ge, o_int, o_abs, o_lenL, o_lenT, o_lenS, o_isN, o_isnN, n_non, n_int, n_str, n_bl, n_tup, n_lst, n_ins, o_mkT0, o_mkT1, o_mkT2, o_mkT3, o_mkL0, o_mkL1, o_mkL2, o_mkL3, o_maxD, o_minD, o_revT, o_revL, o_ixT0, o_ixT1, o_ixT2, o_isL, o_tupL, o_tupT, o_not, o_neg, ok_match, ok_match2, kt_int, kt_str, kt_bl, kt_tup, kt_lst, kt_non, kt_some, i_enumT, i_enumL, i_lst, i_tup, i_scr, List.getElem?_cons_zero, List.getElem?_cons_succ, List.set_cons_zero, List.set_cons_succ, List.length_cons, List.length_nil, List.length_set, List.map_cons, List.map_nil, List.cons_append, List.nil_append, List.append_nil, Option.bind_some, Option.map_some, Nat.reduceAdd, Nat.reduceLT, Nat.reduceSucc, Nat.zero_lt_succ, Nat.lt_add_left_iff_pos, eq_self, and_self, true_and, and_true, if_true_, if_false_, Int.toNat_natCast, ite_true, ite_false, Bool.not_true, Bool.not_false, Bool.false_eq_true, decide_true, decide_false, wpO_some, turn_nx, turn_ct, turn_bk, reduceCtorEq, Nat.succ_pos, Nat.succ_lt_succ_iff, ef]
            exact ⟨_, _, rfl⟩
        · rintro _ ⟨s2, s3, rfl⟩
          simp -implicitDefEqProofs only [v_pVar', v_pVarQ', v_pVarR', k_v, k_vq, k_vr, k_oq, k_or, k_or2, k_vVal, k_vFr, k_par, k_set, k_aug, k_own, k_retF, k_ix, k_ix2, k_ixL, oR_s, k_app2, k_app, k_pop3, k_pop2, k_pop, k_apL2, k_apL1, k_apL, k_cal, k_calR, k_calO, k_ch1, k_ch2, k_lst, k_fldV, k_fldO, v_setF, v_pC, v_p1, v_p2, v_p3, v_aNil, v_aCons, v_pA, v_b1, v_asB, v_bAnd, v_bOr, v_bNot, v_pIf, v_pAndK, v_pOrK, v_liftE, v_e1, v_e2, v_bNil, v_bCons, v_eA, v_vNil, v_vVal, v_vFr, v_liftB, v_q1, v_qAnd, v_qOr, v_qNot, v_eIf, v_gVar, v_gTupD, v_gsNil, v_gsCons, v_pIxLL, v_gIx, v_gIx2, v_sNext, v_sNever, v_sRetN, v_sRet, v_sRetE, v_sRetF, v_sExpr, v_sExprE, v_sIf, v_sIfE, v_seq, v_asg, v_asgE, v_own, v_ownG, v_par, v_aug, v_putNil, v_putV, v_putF, v_iAdd, v_pSl, v_oNone, v_oSome, v_eApp, v_ePop, v_eAppLL, v_eCallO, v_callO, v_i1, v_pM1, v_pChain, v_pIndex, v_aLen, v_aApp, v_pFrz, v_pAO, v_gLst, v_frz0, v_frz0l, v_frzO, v_frz1, v_frzV, v_frzU, R.bind_ok, RE.bind_ok, RE.seq_ok, R.seq_ok, R.seqB_ok, RE.bindA_ok, RA.bind_ok, RA.bindE_ok, RV.bind_ok, RB.bind_ok, RB.bindE_ok, RB.seq_ok, RE.bindB_ok, upB_ok, up_ok, RS.then_nx, RS.then_rt, RS.then_rtO, RS.then_ct, RS.then_bk, o_eqI, o_neI, o_eqB, o_or1, o_or2, o_or3, o_and1, o_and2, o_and3, Int.cast_ofNat_Int, Int.reduceEq, Int.reduceLT, Int.reduceLE, Int.reduceAdd, Int.reduceSub, Int.reduceMul, Int.reduceNeg, o_add, o_sub, o_lt, o_le, o_gt, o_ge, o_int, o_abs, o_lenL, o_lenT, o_lenS, o_isN, o_isnN, n_non, n_int, n_str, n_bl, n_tup, n_lst, n_ins, o_mkT0, o_mkT1, o_mkT2, o_mkT3, o_mkL0, o_mkL1, o_mkL2, o_mkL3, o_maxD, o_minD, o_revT, o_revL, o_ixT0, o_ixT1, o_ixT2, o_isL, o_tupL, o_tupT, o_not, o_neg, ok_match, ok_match2, kt_int, kt_str, kt_bl, kt_tup, kt_lst, kt_non, kt_some, i_enumT, i_enumL, i_lst, i_tup, i_scr, List.getElem?_cons_zero, List.getElem?_cons_succ, List.set_cons_zero, List.set_cons_succ, List.length_cons, List.length_nil, List.length_set, List.map_cons, List.map_nil, List.cons_append, List.nil_append, List.append_nil, Option.bind_some, Option.map_some, Nat.reduceAdd, Nat.reduceLT, Nat.reduceSucc, Nat.zero_lt_succ, Nat.lt_add_left_iff_pos, eq_self, and_self, true_and, and_true, if_true_, if_false_, Int.toNat_natCast, ite_true, ite_false, Bool.not_true, Bool.not_false, Bool.false_eq_true, decide_true, decide_false, wpO_some, turn_nx, turn_ct, turn_bk, reduceCtorEq, Nat.succ_pos, Nat.succ_lt_succ_iff]
          refine ⟨_, _, _, _, _, lev.next (os := row.flatMap nb) ?_, by omega, rfl⟩
          intro v
          rw [List.mem_flatMap]
          exact ⟨fun ⟨p, hp, hv⟩ => ⟨p, hp, (hb p (hrn p hp) v).mp hv⟩, fun ⟨p, hp, hv⟩ => ⟨p, hp, (hb p (hrn p hp) v).mpr hv⟩⟩
end MA

set_option Elab.async false
set_option linter.all false
set_option maxRecDepth 100000
set_option maxHeartbeats 2000000
/-! Webs made; their distances. -/
namespace MA
open PySem PySem.Spec PyProof.Rows L2 He DL DM Gr
theorem sd_oD (x : Option Nat) : Sd 0 (oD x) := by cases x <;> first | exact sd_non | exact sd_int _
theorem in_non {n : Nat} {g : Nat → Option Nat} (h : ∀ v, v < n → g v ≠ none) : inD .non (.lst (arr n fun v => oD (g v))) = .ok (.bl false) := by
  rw [o_inL sd_non (sd_lst (k := 0) fun x hx => by obtain ⟨i, _, rfl⟩ := arr_mem.mp hx; exact sd_oD _) (by omega) (by omega)]
  congr 2
  rw [Bool.eq_false_iff]
  intro z
  obtain ⟨d, hd, e⟩ := List.any_eq_true.mp z
  obtain ⟨i, hi, rfl⟩ := arr_mem.mp hd
  cases q : g i with
  | none => exact h i hi q
  | some d => rw [q] at e; cases e
noncomputable def distA (n : Nat) (L : Es) : List D := arr n fun i => .lst (arr n fun j => .int (dst L i j : Nat))
noncomputable def distT (n : Nat) (L : Es) : List D := arr n fun i => .tup (arr n fun j => .int (dst L i j : Nat))
def stepsA (L : Es) : List D := L.map fun p => .tup [.int (p.1 : Nat), .int (p.2 : Nat)]
noncomputable def webF (n : Nat) (nm : Nat → Str) (L : Es) : List (Str × D) := [("places", twD n nm), ("roads", tiD nm L), ("ways", .lst (distA n L)), ("pairs", .tup (stepsA L))]
noncomputable def webD (K : Fg) (n : Nat) (nm : Nat → Str) (L : Es) : D := .ins (ga K "Web") (webF n nm L)
/-- what is known of a web -/
structure Wb (n : Nat) (nm : Nat → Str) (L : Es) : Prop where
  N : Nms n nm
  T : Bd n L
  len : L.length ≤ 60
  H : Hang L n
abbrev KW (K : Fg) : Prop := PySem.W.kitOne K (.ref (ga K "Web")) (.ref (ga K "Web")) = some true
section
variable {K : Fg} {n : Nat} {nm : Nat → Str} {L : Es} (W : Wb n nm L)
include W
theorem dist_from_web {u : Nat} (hu : u < n) : callV F_distances_from [.lst (nearA n (nbr L)), .int (u : Int)] = .ok (.lst (arr n fun v => .int (dst L u v : Nat))) := by
  obtain ⟨g, h1, h2⟩ := distances_from_c (n := n) (by have := W.N.hi; omega) W.T.w (fun i _ j => mem_nbr) hu
  rw [h2]
  congr 2
  refine arr_congr fun v hv => ?_
  rw [(h1 v _).mpr (W.H.dst hu hv)]
  rfl
theorem first_apart_web : callV F_first_apart [twD n nm, tiD nm L] = .ok .non := by
  refine cv_rt ?_
  have h0 : 0 < n := W.N.lo
  obtain ⟨g, h1, h2⟩ := distances_from_c (n := n) (by have := W.N.hi; omega) W.T.w (fun i _ j => mem_nbr) h0
  have hg : ∀ v, v < n → g v ≠ none := fun v hv e => by
    have := (h1 v _).mpr (W.H.dst h0 hv)
    rw [e] at this; cases this
  have a1 := neighbours_c W.N W.T (by have := W.len; omega)
  have a2 := in_non hg
  show Wp (m_first_apart [.val (twD n nm), .val (tiD nm L), .un]) _
  unfold m_first_apart
  rw [Int.natCast_zero] at h2
  simp -implicitDefEqProofs only [v_pVar', v_pVarQ', v_pVarR', k_v, k_vq, k_vr, k_oq, k_or, k_or2, k_vVal, k_vFr, k_par, k_set, k_aug, k_own, k_retF, k_ix, k_ix2, k_ixL, oR_s, k_app2, k_app, k_pop3, k_pop2, k_pop, k_apL2, k_apL1, k_apL, k_cal, k_calR, k_calO, k_ch1, k_ch2, k_lst, k_fldV, k_fldO, v_setF, v_pC, v_p1, v_p2, v_p3, v_aNil, v_aCons, v_pA, v_b1, v_asB, v_bAnd, v_bOr, v_bNot, v_pIf, v_pAndK, v_pOrK, v_liftE, v_e1, v_e2, v_bNil, v_bCons, v_eA, v_vNil, v_vVal, v_vFr, v_liftB, v_q1, v_qAnd, v_qOr, v_qNot, v_eIf, v_gVar, v_gTupD, v_gsNil, v_gsCons, v_pIxLL, v_gIx, v_gIx2, v_sNext, v_sNever, v_sRetN, v_sRet, v_sRetE, v_sRetF, v_sExpr, v_sExprE, v_sIf, v_sIfE, v_seq, v_asg, v_asgE, v_own, v_ownG, v_par, v_aug, v_putNil, v_putV, v_putF, v_iAdd, v_pSl, v_oNone, v_oSome, v_eApp, v_ePop, v_eAppLL, v_eCallO, v_callO, v_i1, v_pM1, v_pChain, v_pIndex, v_aLen, v_aApp, v_pFrz, v_pAO, v_gLst, v_frz0, v_frz0l, v_frzO, v_frz1, v_frzV, v_frzU, R.bind_ok, RE.bind_ok, RE.seq_ok, R.seq_ok, R.seqB_ok, RE.bindA_ok, RA.bind_ok, RA.bindE_ok, RV.bind_ok, RB.bind_ok, RB.bindE_ok, RB.seq_ok, RE.bindB_ok, upB_ok, up_ok, RS.then_nx, RS.then_rt, RS.then_rtO, RS.then_ct, RS.then_bk, o_eqI, o_neI, o_eqB, o_or1, o_or2, o_or3, o_and1, o_and2, o_and3, Int.cast_ofNat_Int, Int.reduceEq, Int.reduceLT, Int.reduceLE, Int.reduceAdd, Int.reduceSub, Int.reduceMul, Int.reduceNeg, o_add, o_sub, o_lt, o_le, o_gt, o_ge, o_int, o_abs, o_lenL, o_lenT, o_lenS, o_isN, o_isnN, n_non, n_int, n_str, n_bl, n_tup, n_lst, n_ins, o_mkT0, o_mkT1, o_mkT2, o_mkT3, o_mkL0, o_mkL1, o_mkL2, o_mkL3, o_maxD, o_minD, o_revT, o_revL, o_ixT0, o_ixT1, o_ixT2, o_isL, o_tupL, o_tupT, o_not, o_neg, ok_match, ok_match2, kt_int, kt_str, kt_bl, kt_tup, kt_lst, kt_non, kt_some, i_enumT, i_enumL, i_lst, i_tup, i_scr, List.getElem?_cons_zero, List.getElem?_cons_succ, List.set_cons_zero, List.set_cons_succ, List.length_cons, List.length_nil, List.length_set, List.map_cons, List.map_nil, List.cons_append, List.nil_append, List.append_nil, Option.bind_some, Option.map_some, Nat.reduceAdd, Nat.reduceLT, Nat.reduceSucc, Nat.zero_lt_succ, Nat.lt_add_left_iff_pos, eq_self, and_self, true_and, and_true, if_true_, if_false_, Int.toNat_natCast, ite_true, ite_false, Bool.not_true, Bool.not_false, Bool.false_eq_true, decide_true, decide_false, wpO_some, turn_nx, turn_ct, turn_bk, reduceCtorEq, Nat.succ_pos, Nat.succ_lt_succ_iff, a1, a2, h2]
  exact isRt_ok
theorem all_distances_web : callV F_all_distances [twD n nm, tiD nm L] = .ok (.lst (distA n L)) := by
  refine cv_rt ?_
  have a1 := neighbours_c W.N W.T (by have := W.len; omega)
  have hi := W.N.hi
  show Wp (m_all_distances [.val (twD n nm), .val (tiD nm L), .un, .un]) _
  unfold m_all_distances
  simp -implicitDefEqProofs only [v_pVar', v_pVarQ', v_pVarR', k_v, k_vq, k_vr, k_oq, k_or, k_or2, k_vVal, k_vFr, k_par, k_set, k_aug, k_own, k_retF, k_ix, k_ix2, k_ixL, oR_s, k_app2, k_app, k_pop3, k_pop2, k_pop, k_apL2, k_apL1, k_apL, k_cal, k_calR, k_calO, k_ch1, k_ch2, k_lst, k_fldV, k_fldO, v_setF, v_pC, v_p1, v_p2, v_p3, v_aNil, v_aCons, v_pA, v_b1, v_asB, v_bAnd, v_bOr, v_bNot, v_pIf, v_pAndK, v_pOrK, v_liftE, v_e1, v_e2, v_bNil, v_bCons, v_eA, v_vNil, v_vVal, v_vFr, v_liftB, v_q1, v_qAnd, v_qOr, v_qNot, v_eIf, v_gVar, v_gTupD, v_gsNil, v_gsCons, v_pIxLL, v_gIx, v_gIx2, v_sNext, v_sNever, v_sRetN, v_sRet, v_sRetE, v_sRetF, v_sExpr, v_sExprE, v_sIf, v_sIfE, v_seq, v_asg, v_asgE, v_own, v_ownG, v_par, v_aug, v_putNil, v_putV, v_putF, v_iAdd, v_pSl, v_oNone, v_oSome, v_eApp, v_ePop, v_eAppLL, v_eCallO, v_callO, v_i1, v_pM1, v_pChain, v_pIndex, v_aLen, v_aApp, v_pFrz, v_pAO, v_gLst, v_frz0, v_frz0l, v_frzO, v_frz1, v_frzV, v_frzU, R.bind_ok, RE.bind_ok, RE.seq_ok, R.seq_ok, R.seqB_ok, RE.bindA_ok, RA.bind_ok, RA.bindE_ok, RV.bind_ok, RB.bind_ok, RB.bindE_ok, RB.seq_ok, RE.bindB_ok, upB_ok, up_ok, RS.then_nx, RS.then_rt, RS.then_rtO, RS.then_ct, RS.then_bk, o_eqI, o_neI, o_eqB, o_or1, o_or2, o_or3, o_and1, o_and2, o_and3, Int.cast_ofNat_Int, Int.reduceEq, Int.reduceLT, Int.reduceLE, Int.reduceAdd, Int.reduceSub, Int.reduceMul, Int.reduceNeg, o_add, o_sub, o_lt, o_le, o_gt, o_ge, o_int, o_abs, o_lenL, o_lenT, o_lenS, o_isN, o_isnN, n_non, n_int, n_str, n_bl, n_tup, n_lst, n_ins, o_mkT0, o_mkT1, o_mkT2, o_mkT3, o_mkL0, o_mkL1, o_mkL2, o_mkL3, o_maxD, o_minD, o_revT, o_revL, o_ixT0, o_ixT1, o_ixT2, o_isL, o_tupL, o_tupT, o_not, o_neg, ok_match, ok_match2, kt_int, kt_str, kt_bl, kt_tup, kt_lst, kt_non, kt_some, i_enumT, i_enumL, i_lst, i_tup, i_scr, List.getElem?_cons_zero, List.getElem?_cons_succ, List.set_cons_zero, List.set_cons_succ, List.length_cons, List.length_nil, List.length_set, List.map_cons, List.map_nil, List.cons_append, List.nil_append, List.append_nil, Option.bind_some, Option.map_some, Nat.reduceAdd, Nat.reduceLT, Nat.reduceSucc, Nat.zero_lt_succ, Nat.lt_add_left_iff_pos, eq_self, and_self, true_and, and_true, if_true_, if_false_, Int.toNat_natCast, ite_true, ite_false, Bool.not_true, Bool.not_false, Bool.false_eq_true, decide_true, decide_false, wpO_some, turn_nx, turn_ct, turn_bk, reduceCtorEq, Nat.succ_pos, Nat.succ_lt_succ_iff, a1]
  have hs : iRange1 (p1 lenD (pVar 0)) [.val (twD n nm), .val (tiD nm L), .val (.lst (nearA n (nbr L))), .un] = .ok (arr n fun k : Nat => .int k) := v_range1 (by unfold twD twA; simp -implicitDefEqProofs only [v_pVar', v_pVarQ', v_pVarR', k_v, k_vq, k_vr, k_oq, k_or, k_or2, k_vVal, k_vFr, k_par, k_set, k_aug, k_own, k_retF, k_ix, k_ix2, k_ixL, oR_s, k_app2, k_app, k_pop3, k_pop2, k_pop, k_apL2, k_apL1, k_apL, k_cal, k_calR, k_calO, k_ch1, k_ch2, k_lst, k_fldV, k_fldO, v_setF, v_pC, v_p1, v_p2, v_p3, v_aNil, v_aCons, v_pA, v_b1, v_asB, v_bAnd, v_bOr, v_bNot, v_pIf, v_pAndK, v_pOrK, v_liftE, v_e1, v_e2, v_bNil, v_bCons, v_eA, v_vNil, v_vVal, v_vFr, v_liftB, v_q1, v_qAnd, v_qOr, v_qNot, v_eIf, v_gVar, v_gTupD, v_gsNil, v_gsCons, v_pIxLL, v_gIx, v_gIx2, v_sNext, v_sNever, v_sRetN, v_sRet, v_sRetE, v_sRetF, v_sExpr, v_sExprE, v_sIf, v_sIfE, v_seq, v_asg, v_asgE, v_own, v_ownG, v_par, v_aug, v_putNil, v_putV, v_putF, v_iAdd, v_pSl, v_oNone, v_oSome, v_eApp, v_ePop, v_eAppLL, v_eCallO, v_callO, v_i1, v_pM1, v_pChain, v_pIndex, v_aLen, v_aApp, v_pFrz, v_pAO, v_gLst, v_frz0, v_frz0l, v_frzO, v_frz1, v_frzV, v_frzU, R.bind_ok, RE.bind_ok, RE.seq_ok, R.seq_ok, R.seqB_ok, RE.bindA_ok, RA.bind_ok, RA.bindE_ok, RV.bind_ok, RB.bind_ok, RB.bindE_ok, RB.seq_ok, RE.bindB_ok, upB_ok, up_ok, RS.then_nx, RS.then_rt, RS.then_rtO, RS.then_ct, RS.then_bk, o_eqI, o_neI, o_eqB, o_or1, o_or2, o_or3, o_and1, o_and2, o_and3, Int.cast_ofNat_Int, Int.reduceEq, Int.reduceLT, Int.reduceLE, Int.reduceAdd, Int.reduceSub, Int.reduceMul, Int.reduceNeg, o_add, o_sub, o_lt, o_le, o_gt, o_ge, o_int, o_abs, o_lenL, o_lenT, o_lenS, o_isN, o_isnN, n_non, n_int, n_str, n_bl, n_tup, n_lst, n_ins, o_mkT0, o_mkT1, o_mkT2, o_mkT3, o_mkL0, o_mkL1, o_mkL2, o_mkL3, o_maxD, o_minD, o_revT, o_revL, o_ixT0, o_ixT1, o_ixT2, o_isL, o_tupL, o_tupT, o_not, o_neg, ok_match, ok_match2, kt_int, kt_str, kt_bl, kt_tup, kt_lst, kt_non, kt_some, i_enumT, i_enumL, i_lst, i_tup, i_scr, List.getElem?_cons_zero, List.getElem?_cons_succ, List.set_cons_zero, List.set_cons_succ, List.length_cons, List.length_nil, List.length_set, List.map_cons, List.map_nil, List.cons_append, List.nil_append, List.append_nil, Option.bind_some, Option.map_some, Nat.reduceAdd, Nat.reduceLT, Nat.reduceSucc, Nat.zero_lt_succ, Nat.lt_add_left_iff_pos, eq_self, and_self, true_and, and_true, if_true_, if_false_, Int.toNat_natCast, ite_true, ite_false, Bool.not_true, Bool.not_false, Bool.false_eq_true, decide_true, decide_false, wpO_some, turn_nx, turn_ct, turn_bk, reduceCtorEq, Nat.succ_pos, Nat.succ_lt_succ_iff, arr_len]) (by omega)
  rw [pLc_map (fun k : Nat => .int k) (fun i => .lst (arr n fun j => .int (dst L i j : Nat))) (List.range n) hs]
  rotate_left
  · intro i hi
    refine ⟨_, rfl, rfl, ?_⟩
    have := dist_from_web W (List.mem_range.mp hi)
    simp -implicitDefEqProofs only [v_pVar', v_pVarQ', v_pVarR', k_v, k_vq, k_vr, k_oq, k_or, k_or2, k_vVal, k_vFr, k_par, k_set, k_aug, k_own, k_retF, k_ix, k_ix2, k_ixL, oR_s, k_app2, k_app, k_pop3, k_pop2, k_pop, k_apL2, k_apL1, k_apL, k_cal, k_calR, k_calO, k_ch1, k_ch2, k_lst, k_fldV, k_fldO, v_setF, v_pC, v_p1, v_p2, v_p3, v_aNil, v_aCons, v_pA, v_b1, v_asB, v_bAnd, v_bOr, v_bNot, v_pIf, v_pAndK, v_pOrK, v_liftE, v_e1, v_e2, v_bNil, v_bCons, v_eA, v_vNil, v_vVal, v_vFr, v_liftB, v_q1, v_qAnd, v_qOr, v_qNot, v_eIf, v_gVar, v_gTupD, v_gsNil, v_gsCons, v_pIxLL, v_gIx, v_gIx2, v_sNext, v_sNever, v_sRetN, v_sRet, v_sRetE, v_sRetF, v_sExpr, v_sExprE, v_sIf, v_sIfE, v_seq, v_asg, v_asgE, v_own, v_ownG, v_par, v_aug, v_putNil, v_putV, v_putF, v_iAdd, v_pSl, v_oNone, v_oSome, v_eApp, v_ePop, v_eAppLL, v_eCallO, v_callO, v_i1, v_pM1, v_pChain, v_pIndex, v_aLen, v_aApp, v_pFrz, v_pAO, v_gLst, v_frz0, v_frz0l, v_frzO, v_frz1, v_frzV, v_frzU, R.bind_ok, RE.bind_ok, RE.seq_ok, R.seq_ok, R.seqB_ok, RE.bindA_ok, RA.bind_ok, RA.bindE_ok, RV.bind_ok, RB.bind_ok, RB.bindE_ok, RB.seq_ok, RE.bindB_ok, upB_ok, up_ok, RS.then_nx, RS.then_rt, RS.then_rtO, RS.then_ct, RS.then_bk, o_eqI, o_neI, o_eqB, o_or1, o_or2, o_or3, o_and1, o_and2, o_and3, Int.cast_ofNat_Int, Int.reduceEq, Int.reduceLT, Int.reduceLE, Int.reduceAdd, Int.reduceSub, Int.reduceMul, Int.reduceNeg, o_add, o_sub, o_lt, o_le, o_gt, o_ge, o_int, o_abs, o_lenL, o_lenT, o_lenS, o_isN, o_isnN, n_non, n_int, n_str, n_bl, n_tup, n_lst, n_ins, o_mkT0, o_mkT1, o_mkT2, o_mkT3, o_mkL0, o_mkL1, o_mkL2, o_mkL3, o_maxD, o_minD, o_revT, o_revL, o_ixT0, o_ixT1, o_ixT2, o_isL, o_tupL, o_tupT, o_not, o_neg, ok_match, ok_match2, kt_int, kt_str, kt_bl, kt_tup, kt_lst, kt_non, kt_some, i_enumT, i_enumL, i_lst, i_tup, i_scr, List.getElem?_cons_zero, List.getElem?_cons_succ, List.set_cons_zero, List.set_cons_succ, List.length_cons, List.length_nil, List.length_set, List.map_cons, List.map_nil, List.cons_append, List.nil_append, List.append_nil, Option.bind_some, Option.map_some, Nat.reduceAdd, Nat.reduceLT, Nat.reduceSucc, Nat.zero_lt_succ, Nat.lt_add_left_iff_pos, eq_self, and_self, true_and, and_true, if_true_, if_false_, Int.toNat_natCast, ite_true, ite_false, Bool.not_true, Bool.not_false, Bool.false_eq_true, decide_true, decide_false, wpO_some, turn_nx, turn_ct, turn_bk, reduceCtorEq, Nat.succ_pos, Nat.succ_lt_succ_iff, wipeS, this]
  · rw [List.length_range]; omega
  simp -implicitDefEqProofs only [v_pVar', v_pVarQ', v_pVarR', k_v, k_vq, k_vr, k_oq, k_or, k_or2, k_vVal, k_vFr, k_par, k_set, k_aug, k_own, k_retF, k_ix, k_ix2, k_ixL, oR_s, k_app2, k_app, k_pop3, k_pop2, k_pop, k_apL2, k_apL1, k_apL, k_cal, k_calR, k_calO, k_ch1, k_ch2, k_lst, k_fldV, k_fldO, v_setF, v_pC, v_p1, v_p2, v_p3, v_aNil, v_aCons, v_pA, v_b1, v_asB, v_bAnd, v_bOr, v_bNot, v_pIf, v_pAndK, v_pOrK, v_liftE, v_e1, v_e2, v_bNil, v_bCons, v_eA, v_vNil, v_vVal, v_vFr, v_liftB, v_q1, v_qAnd, v_qOr, v_qNot, v_eIf, v_gVar, v_gTupD, v_gsNil, v_gsCons, v_pIxLL, v_gIx, v_gIx2, v_sNext, v_sNever, v_sRetN, v_sRet, v_sRetE, v_sRetF, v_sExpr, v_sExprE, v_sIf, v_sIfE, v_seq, v_asg, v_asgE, v_own, v_ownG, v_par, v_aug, v_putNil, v_putV, v_putF, v_iAdd, v_pSl, v_oNone, v_oSome, v_eApp, v_ePop, v_eAppLL, v_eCallO, v_callO, v_i1, v_pM1, v_pChain, v_pIndex, v_aLen, v_aApp, v_pFrz, v_pAO, v_gLst, v_frz0, v_frz0l, v_frzO, v_frz1, v_frzV, v_frzU, R.bind_ok, RE.bind_ok, RE.seq_ok, R.seq_ok, R.seqB_ok, RE.bindA_ok, RA.bind_ok, RA.bindE_ok, RV.bind_ok, RB.bind_ok, RB.bindE_ok, RB.seq_ok, RE.bindB_ok, upB_ok, up_ok, RS.then_nx, RS.then_rt, RS.then_rtO, RS.then_ct, RS.then_bk, o_eqI, o_neI, o_eqB, o_or1, o_or2, o_or3, o_and1, o_and2, o_and3, Int.cast_ofNat_Int, Int.reduceEq, Int.reduceLT, Int.reduceLE, Int.reduceAdd, Int.reduceSub, Int.reduceMul, Int.reduceNeg, o_add, o_sub, o_lt, o_le, o_gt, o_ge, o_int, o_abs, o_lenL, o_lenT, o_lenS, o_isN, o_isnN, n_non, n_int, n_str, n_bl, n_tup, n_lst, n_ins, o_mkT0, o_mkT1, o_mkT2, o_mkT3, o_mkL0, o_mkL1, o_mkL2, o_mkL3, o_maxD, o_minD, o_revT, o_revL, o_ixT0, o_ixT1, o_ixT2, o_isL, o_tupL, o_tupT, o_not, o_neg, ok_match, ok_match2, kt_int, kt_str, kt_bl, kt_tup, kt_lst, kt_non, kt_some, i_enumT, i_enumL, i_lst, i_tup, i_scr, List.getElem?_cons_zero, List.getElem?_cons_succ, List.set_cons_zero, List.set_cons_succ, List.length_cons, List.length_nil, List.length_set, List.map_cons, List.map_nil, List.cons_append, List.nil_append, List.append_nil, Option.bind_some, Option.map_some, Nat.reduceAdd, Nat.reduceLT, Nat.reduceSucc, Nat.zero_lt_succ, Nat.lt_add_left_iff_pos, eq_self, and_self, true_and, and_true, if_true_, if_false_, Int.toNat_natCast, ite_true, ite_false, Bool.not_true, Bool.not_false, Bool.false_eq_true, decide_true, decide_false, wpO_some, turn_nx, turn_ct, turn_bk, reduceCtorEq, Nat.succ_pos, Nat.succ_lt_succ_iff]
  exact isRt_ok
theorem pairs_web {ρ : List Sl} (h : ρ = [.own 1 (.ins (ga K "Web") [("places", twD n nm), ("roads", tiD nm L), ("ways", .lst (distA n L))]), .val (twD n nm), .val (tiD nm L), .val (.tup []), .val .non, .un, .un]) :
    pLc (i1 itemsD (pVar 2)) [5, 6] (gTupD (gsCons (gVar 5) (gsCons (gVar 6) gsNil))) tYes' (pA mkT (aCons (pIndex (pVar 1) (pVar 5)) (aCons (pIndex (pVar 1) (pVar 6)) aNil))) ρ = .ok (.lst (stepsA L)) := by
  subst h
  refine pLc_map (tieD nm) _ L rfl (fun p hp => ⟨_, rfl, rfl, ?_⟩) (by have := W.len; omega)
  obtain ⟨h1, h2⟩ := W.T.w p hp
  simp -implicitDefEqProofs only [v_pVar', v_pVarQ', v_pVarR', k_v, k_vq, k_vr, k_oq, k_or, k_or2, k_vVal, k_vFr, k_par, k_set, k_aug, k_own, k_retF, k_ix, k_ix2, k_ixL, oR_s, k_app2, k_app, k_pop3, k_pop2, k_pop, k_apL2, k_apL1, k_apL, k_cal, k_calR, k_calO, k_ch1, k_ch2, k_lst, k_fldV, k_fldO, v_setF, v_pC, v_p1, v_p2, v_p3, v_aNil, v_aCons, v_pA, v_b1, v_asB, v_bAnd, v_bOr, v_bNot, v_pIf, v_pAndK, v_pOrK, v_liftE, v_e1, v_e2, v_bNil, v_bCons, v_eA, v_vNil, v_vVal, v_vFr, v_liftB, v_q1, v_qAnd, v_qOr, v_qNot, v_eIf, v_gVar, v_gTupD, v_gsNil, v_gsCons, v_pIxLL, v_gIx, v_gIx2, v_sNext, v_sNever, v_sRetN, v_sRet, v_sRetE, v_sRetF, v_sExpr, v_sExprE, v_sIf, v_sIfE, v_seq, v_asg, v_asgE, v_own, v_ownG, v_par, v_aug, v_putNil, v_putV, v_putF, v_iAdd, v_pSl, v_oNone, v_oSome, v_eApp, v_ePop, v_eAppLL, v_eCallO, v_callO, v_i1, v_pM1, v_pChain, v_pIndex, v_aLen, v_aApp, v_pFrz, v_pAO, v_gLst, v_frz0, v_frz0l, v_frzO, v_frz1, v_frzV, v_frzU, R.bind_ok, RE.bind_ok, RE.seq_ok, R.seq_ok, R.seqB_ok, RE.bindA_ok, RA.bind_ok, RA.bindE_ok, RV.bind_ok, RB.bind_ok, RB.bindE_ok, RB.seq_ok, RE.bindB_ok, upB_ok, up_ok, RS.then_nx, RS.then_rt, RS.then_rtO, RS.then_ct, RS.then_bk, o_eqI, o_neI, o_eqB, o_or1, o_or2, o_or3, o_and1, o_and2, o_and3, Int.cast_ofNat_Int, Int.reduceEq, Int.reduceLT, Int.reduceLE, Int.reduceAdd, Int.reduceSub, Int.reduceMul, Int.reduceNeg, o_add, o_sub, o_lt, o_le, o_gt, o_ge, o_int, o_abs, o_lenL, o_lenT, o_lenS, o_isN, o_isnN, n_non, n_int, n_str, n_bl, n_tup, n_lst, n_ins, o_mkT0, o_mkT1, o_mkT2, o_mkT3, o_mkL0, o_mkL1, o_mkL2, o_mkL3, o_maxD, o_minD, o_revT, o_revL, o_ixT0, o_ixT1, o_ixT2, o_isL, o_tupL, o_tupT, o_not, o_neg, ok_match, ok_match2, kt_int, kt_str, kt_bl, kt_tup, kt_lst, kt_non, kt_some, i_enumT, i_enumL, i_lst, i_tup, i_scr, List.getElem?_cons_zero, List.getElem?_cons_succ, List.set_cons_zero, List.set_cons_succ, List.length_cons, List.length_nil, List.length_set, List.map_cons, List.map_nil, List.cons_append, List.nil_append, List.append_nil, Option.bind_some, Option.map_some, Nat.reduceAdd, Nat.reduceLT, Nat.reduceSucc, Nat.zero_lt_succ, Nat.lt_add_left_iff_pos, eq_self, and_self, true_and, and_true, if_true_, if_false_, Int.toNat_natCast, ite_true, ite_false, Bool.not_true, Bool.not_false, Bool.false_eq_true, decide_true, decide_false, wpO_some, turn_nx, turn_ct, turn_bk, reduceCtorEq, Nat.succ_pos, Nat.succ_lt_succ_iff, wipeS, W.N.kind, W.N.ix h1, W.N.ix h2]
theorem web_init : F_Web___init__ K [.own 1 (.ins (ga K "Web") []), .val (twD n nm), .val (tiD nm L)] = .ok (.rt .non) [.own 1 (.ins (ga K "Web") (webF n nm L)), .val (twD n nm), .val (tiD nm L)] := by
  have a1 := wrong_town_c W.N
  have a2 := wrong_tie_c W.N W.T W.len
  have a3 := first_apart_web W
  have a4 := all_distances_web W
  have a5 := pairs_web (K := K) W rfl
  refine (runF_nx (ρ' := [.own 1 (.ins (ga K "Web") (webF n nm L)), .val (twD n nm), .val (tiD nm L), .val (.tup []), .val .non, .un, .un]) ?_).trans rfl
  show m_Web___init__ K [.own 1 (.ins (ga K "Web") []), .val (twD n nm), .val (tiD nm L), .un, .un, .un, .un] = _
  unfold m_Web___init__
  have p1 : (("places" : Str) = "roads") = False := by simp only [eq_iff_iff, iff_false]; decide
  have p2 : (("places" : Str) = "ways") = False := by simp only [eq_iff_iff, iff_false]; decide
  have p3 : (("places" : Str) = "pairs") = False := by simp only [eq_iff_iff, iff_false]; decide
  have p4 : (("roads" : Str) = "ways") = False := by simp only [eq_iff_iff, iff_false]; decide
  have p5 : (("roads" : Str) = "pairs") = False := by simp only [eq_iff_iff, iff_false]; decide
  have p6 : (("ways" : Str) = "pairs") = False := by simp only [eq_iff_iff, iff_false]; decide
  simp -implicitDefEqProofs only [v_pVar', v_pVarQ', v_pVarR', k_v, k_vq, k_vr, k_oq, k_or, k_or2, k_vVal, k_vFr, k_par, k_set, k_aug, k_own, k_retF, k_ix, k_ix2, k_ixL, oR_s, k_app2, k_app, k_pop3, k_pop2, k_pop, k_apL2, k_apL1, k_apL, k_cal, k_calR, k_calO, k_ch1, k_ch2, k_lst, k_fldV, k_fldO, v_setF, v_pC, v_p1, v_p2, v_p3, v_aNil, v_aCons, v_pA, v_b1, v_asB, v_bAnd, v_bOr, v_bNot, v_pIf, v_pAndK, v_pOrK, v_liftE, v_e1, v_e2, v_bNil, v_bCons, v_eA, v_vNil, v_vVal, v_vFr, v_liftB, v_q1, v_qAnd, v_qOr, v_qNot, v_eIf, v_gVar, v_gTupD, v_gsNil, v_gsCons, v_pIxLL, v_gIx, v_gIx2, v_sNext, v_sNever, v_sRetN, v_sRet, v_sRetE, v_sRetF, v_sExpr, v_sExprE, v_sIf, v_sIfE, v_seq, v_asg, v_asgE, v_own, v_ownG, v_par, v_aug, v_putNil, v_putV, v_putF, v_iAdd, v_pSl, v_oNone, v_oSome, v_eApp, v_ePop, v_eAppLL, v_eCallO, v_callO, v_i1, v_pM1, v_pChain, v_pIndex, v_aLen, v_aApp, v_pFrz, v_pAO, v_gLst, v_frz0, v_frz0l, v_frzO, v_frz1, v_frzV, v_frzU, R.bind_ok, RE.bind_ok, RE.seq_ok, R.seq_ok, R.seqB_ok, RE.bindA_ok, RA.bind_ok, RA.bindE_ok, RV.bind_ok, RB.bind_ok, RB.bindE_ok, RB.seq_ok, RE.bindB_ok, upB_ok, up_ok, RS.then_nx, RS.then_rt, RS.then_rtO, RS.then_ct, RS.then_bk, o_eqI, o_neI, o_eqB, o_or1, o_or2, o_or3, o_and1, o_and2, o_and3, Int.cast_ofNat_Int, Int.reduceEq, Int.reduceLT, Int.reduceLE, Int.reduceAdd, Int.reduceSub, Int.reduceMul, Int.reduceNeg, o_add, o_sub, o_lt, o_le, o_gt, o_ge, o_int, o_abs, o_lenL, o_lenT, o_lenS, o_isN, o_isnN, n_non, n_int, n_str, n_bl, n_tup, n_lst, n_ins, o_mkT0, o_mkT1, o_mkT2, o_mkT3, o_mkL0, o_mkL1, o_mkL2, o_mkL3, o_maxD, o_minD, o_revT, o_revL, o_ixT0, o_ixT1, o_ixT2, o_isL, o_tupL, o_tupT, o_not, o_neg, ok_match, ok_match2, kt_int, kt_str, kt_bl, kt_tup, kt_lst, kt_non, kt_some, i_enumT, i_enumL, i_lst, i_tup, i_scr, List.getElem?_cons_zero, List.getElem?_cons_succ, List.set_cons_zero, List.set_cons_succ, List.length_cons, List.length_nil, List.length_set, List.map_cons, List.map_nil, List.cons_append, List.nil_append, List.append_nil, Option.bind_some, Option.map_some, Nat.reduceAdd, Nat.reduceLT, Nat.reduceSucc, Nat.zero_lt_succ, Nat.lt_add_left_iff_pos, eq_self, and_self, true_and, and_true, if_true_, if_false_, Int.toNat_natCast, ite_true, ite_false, Bool.not_true, Bool.not_false, Bool.false_eq_true, decide_true, decide_false, wpO_some, turn_nx, turn_ct, turn_bk, reduceCtorEq, Nat.succ_pos, Nat.succ_lt_succ_iff, a1, a2, a3, a4, ne_tup0, v_setF, putD, p1, p2, p3, p4, p5, p6, true_and, a5]
  rfl
end
end MA

set_option Elab.async false
set_option linter.all false
set_option maxRecDepth 100000
set_option maxHeartbeats 2000000
/-! What webs answer. -/
namespace MA
open PySem PySem.Spec PyProof.Rows L2 He DL DM Gr
section
variable {K : Fg} {n : Nat} {nm : Nat → Str} {L : Es}
theorem look_places : (webF n nm L).lookup ("places" : Str) = some (twD n nm) := rfl
theorem look_roads : (webF n nm L).lookup ("roads" : Str) = some (tiD nm L) := rfl
theorem look_ways : (webF n nm L).lookup ("ways" : Str) = some (.lst (distA n L)) := rfl
theorem look_pairs : (webF n nm L).lookup ("pairs" : Str) = some (.tup (stepsA L)) := rfl
theorem fld_web {f : Str} {d : D} (h : (webF n nm L).lookup f = some d) : fldD (ga K "Web") f (webD K n nm L) = .ok d := by
  unfold webD fldD
  dsimp only
  rw [if_pos rfl, h]
theorem web_towns : prD (ga K "Web") (F_Web_towns K) (webD K n nm L) = .ok (twD n nm) := by
  have h : F_Web_towns K [.val (webD K n nm L)] = .ok (.rt (twD n nm)) [.val (webD K n nm L)] := by
    refine (runF_rt (ρ' := [.val (webD K n nm L)]) ?_).trans rfl
    show m_Web_towns K [.val (webD K n nm L)] = _
    unfold m_Web_towns
    simp -implicitDefEqProofs only [v_pVar', v_pVarQ', v_pVarR', k_v, k_vq, k_vr, k_oq, k_or, k_or2, k_vVal, k_vFr, k_par, k_set, k_aug, k_own, k_retF, k_ix, k_ix2, k_ixL, oR_s, k_app2, k_app, k_pop3, k_pop2, k_pop, k_apL2, k_apL1, k_apL, k_cal, k_calR, k_calO, k_ch1, k_ch2, k_lst, k_fldV, k_fldO, v_setF, v_pC, v_p1, v_p2, v_p3, v_aNil, v_aCons, v_pA, v_b1, v_asB, v_bAnd, v_bOr, v_bNot, v_pIf, v_pAndK, v_pOrK, v_liftE, v_e1, v_e2, v_bNil, v_bCons, v_eA, v_vNil, v_vVal, v_vFr, v_liftB, v_q1, v_qAnd, v_qOr, v_qNot, v_eIf, v_gVar, v_gTupD, v_gsNil, v_gsCons, v_pIxLL, v_gIx, v_gIx2, v_sNext, v_sNever, v_sRetN, v_sRet, v_sRetE, v_sRetF, v_sExpr, v_sExprE, v_sIf, v_sIfE, v_seq, v_asg, v_asgE, v_own, v_ownG, v_par, v_aug, v_putNil, v_putV, v_putF, v_iAdd, v_pSl, v_oNone, v_oSome, v_eApp, v_ePop, v_eAppLL, v_eCallO, v_callO, v_i1, v_pM1, v_pChain, v_pIndex, v_aLen, v_aApp, v_pFrz, v_pAO, v_gLst, v_frz0, v_frz0l, v_frzO, v_frz1, v_frzV, v_frzU, R.bind_ok, RE.bind_ok, RE.seq_ok, R.seq_ok, R.seqB_ok, RE.bindA_ok, RA.bind_ok, RA.bindE_ok, RV.bind_ok, RB.bind_ok, RB.bindE_ok, RB.seq_ok, RE.bindB_ok, upB_ok, up_ok, RS.then_nx, RS.then_rt, RS.then_rtO, RS.then_ct, RS.then_bk, o_eqI, o_neI, o_eqB, o_or1, o_or2, o_or3, o_and1, o_and2, o_and3, Int.cast_ofNat_Int, Int.reduceEq, Int.reduceLT, Int.reduceLE, Int.reduceAdd, Int.reduceSub, Int.reduceMul, Int.reduceNeg, o_add, o_sub, o_lt, o_le, o_gt, o_ge, o_int, o_abs, o_lenL, o_lenT, o_lenS, o_isN, o_isnN, n_non, n_int, n_str, n_bl, n_tup, n_lst, n_ins, o_mkT0, o_mkT1, o_mkT2, o_mkT3, o_mkL0, o_mkL1, o_mkL2, o_mkL3, o_maxD, o_minD, o_revT, o_revL, o_ixT0, o_ixT1, o_ixT2, o_isL, o_tupL, o_tupT, o_not, o_neg, ok_match, ok_match2, kt_int, kt_str, kt_bl, kt_tup, kt_lst, kt_non, kt_some, i_enumT, i_enumL, i_lst, i_tup, i_scr, List.getElem?_cons_zero, List.getElem?_cons_succ, List.set_cons_zero, List.set_cons_succ, List.length_cons, List.length_nil, List.length_set, List.map_cons, List.map_nil, List.cons_append, List.nil_append, List.append_nil, Option.bind_some, Option.map_some, Nat.reduceAdd, Nat.reduceLT, Nat.reduceSucc, Nat.zero_lt_succ, Nat.lt_add_left_iff_pos, eq_self, and_self, true_and, and_true, if_true_, if_false_, Int.toNat_natCast, ite_true, ite_false, Bool.not_true, Bool.not_false, Bool.false_eq_true, decide_true, decide_false, wpO_some, turn_nx, turn_ct, turn_bk, reduceCtorEq, Nat.succ_pos, Nat.succ_lt_succ_iff, v_pFldO, fld_web look_places]
  unfold DL.prD webD at *
  dsimp only
  rw [if_pos rfl, h]
theorem web_far (hn : n ≤ 1000) : prD (ga K "Web") (F_Web_far K) (webD K n nm L) = .ok (.tup (distT n L)) := by
  have h : F_Web_far K [.val (webD K n nm L)] = .ok (.rt (.tup (distT n L))) [.val (webD K n nm L)] := by
    refine (runF_rt (ρ' := [.val (webD K n nm L), .un]) ?_).trans rfl
    show m_Web_far K [.val (webD K n nm L), .un] = _
    unfold m_Web_far
    have a := fld_web (K := K) (look_ways (n := n) (nm := nm) (L := L))
    rw [v_sRet]
    simp -implicitDefEqProofs only [v_p1]
    rw [pLc_map (fun i : Nat => .lst (arr n fun j => .int (dst L i j : Nat))) (fun i : Nat => .tup (arr n fun j => .int (dst L i j : Nat))) (List.range n)]
    · simp -implicitDefEqProofs only [v_pVar', v_pVarQ', v_pVarR', k_v, k_vq, k_vr, k_oq, k_or, k_or2, k_vVal, k_vFr, k_par, k_set, k_aug, k_own, k_retF, k_ix, k_ix2, k_ixL, oR_s, k_app2, k_app, k_pop3, k_pop2, k_pop, k_apL2, k_apL1, k_apL, k_cal, k_calR, k_calO, k_ch1, k_ch2, k_lst, k_fldV, k_fldO, v_setF, v_pC, v_p1, v_p2, v_p3, v_aNil, v_aCons, v_pA, v_b1, v_asB, v_bAnd, v_bOr, v_bNot, v_pIf, v_pAndK, v_pOrK, v_liftE, v_e1, v_e2, v_bNil, v_bCons, v_eA, v_vNil, v_vVal, v_vFr, v_liftB, v_q1, v_qAnd, v_qOr, v_qNot, v_eIf, v_gVar, v_gTupD, v_gsNil, v_gsCons, v_pIxLL, v_gIx, v_gIx2, v_sNext, v_sNever, v_sRetN, v_sRet, v_sRetE, v_sRetF, v_sExpr, v_sExprE, v_sIf, v_sIfE, v_seq, v_asg, v_asgE, v_own, v_ownG, v_par, v_aug, v_putNil, v_putV, v_putF, v_iAdd, v_pSl, v_oNone, v_oSome, v_eApp, v_ePop, v_eAppLL, v_eCallO, v_callO, v_i1, v_pM1, v_pChain, v_pIndex, v_aLen, v_aApp, v_pFrz, v_pAO, v_gLst, v_frz0, v_frz0l, v_frzO, v_frz1, v_frzV, v_frzU, R.bind_ok, RE.bind_ok, RE.seq_ok, R.seq_ok, R.seqB_ok, RE.bindA_ok, RA.bind_ok, RA.bindE_ok, RV.bind_ok, RB.bind_ok, RB.bindE_ok, RB.seq_ok, RE.bindB_ok, upB_ok, up_ok, RS.then_nx, RS.then_rt, RS.then_rtO, RS.then_ct, RS.then_bk, o_eqI, o_neI, o_eqB, o_or1, o_or2, o_or3, o_and1, o_and2, o_and3, Int.cast_ofNat_Int, Int.reduceEq, Int.reduceLT, Int.reduceLE, Int.reduceAdd, Int.reduceSub, Int.reduceMul, Int.reduceNeg, o_add, o_sub, o_lt, o_le, o_gt, o_ge, o_int, o_abs, o_lenL, o_lenT, o_lenS, o_isN, o_isnN, n_non, n_int, n_str, n_bl, n_tup, n_lst, n_ins, o_mkT0, o_mkT1, o_mkT2, o_mkT3, o_mkL0, o_mkL1, o_mkL2, o_mkL3, o_maxD, o_minD, o_revT, o_revL, o_ixT0, o_ixT1, o_ixT2, o_isL, o_tupL, o_tupT, o_not, o_neg, ok_match, ok_match2, kt_int, kt_str, kt_bl, kt_tup, kt_lst, kt_non, kt_some, i_enumT, i_enumL, i_lst, i_tup, i_scr, List.getElem?_cons_zero, List.getElem?_cons_succ, List.set_cons_zero, List.set_cons_succ, List.length_cons, List.length_nil, List.length_set, List.map_cons, List.map_nil, List.cons_append, List.nil_append, List.append_nil, Option.bind_some, Option.map_some, Nat.reduceAdd, Nat.reduceLT, Nat.reduceSucc, Nat.zero_lt_succ, Nat.lt_add_left_iff_pos, eq_self, and_self, true_and, and_true, if_true_, if_false_, Int.toNat_natCast, ite_true, ite_false, Bool.not_true, Bool.not_false, Bool.false_eq_true, decide_true, decide_false, wpO_some, turn_nx, turn_ct, turn_bk, reduceCtorEq, Nat.succ_pos, Nat.succ_lt_succ_iff]; rfl
    · simp -implicitDefEqProofs only [v_pVar', v_pVarQ', v_pVarR', k_v, k_vq, k_vr, k_oq, k_or, k_or2, k_vVal, k_vFr, k_par, k_set, k_aug, k_own, k_retF, k_ix, k_ix2, k_ixL, oR_s, k_app2, k_app, k_pop3, k_pop2, k_pop, k_apL2, k_apL1, k_apL, k_cal, k_calR, k_calO, k_ch1, k_ch2, k_lst, k_fldV, k_fldO, v_setF, v_pC, v_p1, v_p2, v_p3, v_aNil, v_aCons, v_pA, v_b1, v_asB, v_bAnd, v_bOr, v_bNot, v_pIf, v_pAndK, v_pOrK, v_liftE, v_e1, v_e2, v_bNil, v_bCons, v_eA, v_vNil, v_vVal, v_vFr, v_liftB, v_q1, v_qAnd, v_qOr, v_qNot, v_eIf, v_gVar, v_gTupD, v_gsNil, v_gsCons, v_pIxLL, v_gIx, v_gIx2, v_sNext, v_sNever, v_sRetN, v_sRet, v_sRetE, v_sRetF, v_sExpr, v_sExprE, v_sIf, v_sIfE, v_seq, v_asg, v_asgE, v_own, v_ownG, v_par, v_aug, v_putNil, v_putV, v_putF, v_iAdd, v_pSl, v_oNone, v_oSome, v_eApp, v_ePop, v_eAppLL, v_eCallO, v_callO, v_i1, v_pM1, v_pChain, v_pIndex, v_aLen, v_aApp, v_pFrz, v_pAO, v_gLst, v_frz0, v_frz0l, v_frzO, v_frz1, v_frzV, v_frzU, R.bind_ok, RE.bind_ok, RE.seq_ok, R.seq_ok, R.seqB_ok, RE.bindA_ok, RA.bind_ok, RA.bindE_ok, RV.bind_ok, RB.bind_ok, RB.bindE_ok, RB.seq_ok, RE.bindB_ok, upB_ok, up_ok, RS.then_nx, RS.then_rt, RS.then_rtO, RS.then_ct, RS.then_bk, o_eqI, o_neI, o_eqB, o_or1, o_or2, o_or3, o_and1, o_and2, o_and3, Int.cast_ofNat_Int, Int.reduceEq, Int.reduceLT, Int.reduceLE, Int.reduceAdd, Int.reduceSub, Int.reduceMul, Int.reduceNeg, o_add, o_sub, o_lt, o_le, o_gt, o_ge, o_int, o_abs, o_lenL, o_lenT, o_lenS, o_isN, o_isnN, n_non, n_int, n_str, n_bl, n_tup, n_lst, n_ins, o_mkT0, o_mkT1, o_mkT2, o_mkT3, o_mkL0, o_mkL1, o_mkL2, o_mkL3, o_maxD, o_minD, o_revT, o_revL, o_ixT0, o_ixT1, o_ixT2, o_isL, o_tupL, o_tupT, o_not, o_neg, ok_match, ok_match2, kt_int, kt_str, kt_bl, kt_tup, kt_lst, kt_non, kt_some, i_enumT, i_enumL, i_lst, i_tup, i_scr, List.getElem?_cons_zero, List.getElem?_cons_succ, List.set_cons_zero, List.set_cons_succ, List.length_cons, List.length_nil, List.length_set, List.map_cons, List.map_nil, List.cons_append, List.nil_append, List.append_nil, Option.bind_some, Option.map_some, Nat.reduceAdd, Nat.reduceLT, Nat.reduceSucc, Nat.zero_lt_succ, Nat.lt_add_left_iff_pos, eq_self, and_self, true_and, and_true, if_true_, if_false_, Int.toNat_natCast, ite_true, ite_false, Bool.not_true, Bool.not_false, Bool.false_eq_true, decide_true, decide_false, wpO_some, turn_nx, turn_ct, turn_bk, reduceCtorEq, Nat.succ_pos, Nat.succ_lt_succ_iff, v_pFldO, a]; rfl
    · intro i hi
      exact ⟨_, rfl, rfl, rfl⟩
    · rw [List.length_range]; omega
  unfold DL.prD webD at *
  dsimp only
  rw [if_pos rfl, h]
theorem isC_web (hk : KW K) : isCD K [ga K "Web"] (ga K "Web") (webD K n nm L) = .ok (.bl true) := by
  have h : D.ty [ga K "Web"] (webD K n nm L) = some (.ref (ga K "Web")) := by
    unfold webD
    exact if_pos (by simp)
  unfold isCD
  rw [h]
  dsimp only
  rw [hk]
theorem check_web_c (hk : KW K) : callV (F_check_web K) [webD K n nm L] = .ok .non := by
  refine cv_nx ?_
  show Wp (m_check_web K [.val (webD K n nm L)]) _
  unfold m_check_web
  simp -implicitDefEqProofs only [v_pVar', v_pVarQ', v_pVarR', k_v, k_vq, k_vr, k_oq, k_or, k_or2, k_vVal, k_vFr, k_par, k_set, k_aug, k_own, k_retF, k_ix, k_ix2, k_ixL, oR_s, k_app2, k_app, k_pop3, k_pop2, k_pop, k_apL2, k_apL1, k_apL, k_cal, k_calR, k_calO, k_ch1, k_ch2, k_lst, k_fldV, k_fldO, v_setF, v_pC, v_p1, v_p2, v_p3, v_aNil, v_aCons, v_pA, v_b1, v_asB, v_bAnd, v_bOr, v_bNot, v_pIf, v_pAndK, v_pOrK, v_liftE, v_e1, v_e2, v_bNil, v_bCons, v_eA, v_vNil, v_vVal, v_vFr, v_liftB, v_q1, v_qAnd, v_qOr, v_qNot, v_eIf, v_gVar, v_gTupD, v_gsNil, v_gsCons, v_pIxLL, v_gIx, v_gIx2, v_sNext, v_sNever, v_sRetN, v_sRet, v_sRetE, v_sRetF, v_sExpr, v_sExprE, v_sIf, v_sIfE, v_seq, v_asg, v_asgE, v_own, v_ownG, v_par, v_aug, v_putNil, v_putV, v_putF, v_iAdd, v_pSl, v_oNone, v_oSome, v_eApp, v_ePop, v_eAppLL, v_eCallO, v_callO, v_i1, v_pM1, v_pChain, v_pIndex, v_aLen, v_aApp, v_pFrz, v_pAO, v_gLst, v_frz0, v_frz0l, v_frzO, v_frz1, v_frzV, v_frzU, R.bind_ok, RE.bind_ok, RE.seq_ok, R.seq_ok, R.seqB_ok, RE.bindA_ok, RA.bind_ok, RA.bindE_ok, RV.bind_ok, RB.bind_ok, RB.bindE_ok, RB.seq_ok, RE.bindB_ok, upB_ok, up_ok, RS.then_nx, RS.then_rt, RS.then_rtO, RS.then_ct, RS.then_bk, o_eqI, o_neI, o_eqB, o_or1, o_or2, o_or3, o_and1, o_and2, o_and3, Int.cast_ofNat_Int, Int.reduceEq, Int.reduceLT, Int.reduceLE, Int.reduceAdd, Int.reduceSub, Int.reduceMul, Int.reduceNeg, o_add, o_sub, o_lt, o_le, o_gt, o_ge, o_int, o_abs, o_lenL, o_lenT, o_lenS, o_isN, o_isnN, n_non, n_int, n_str, n_bl, n_tup, n_lst, n_ins, o_mkT0, o_mkT1, o_mkT2, o_mkT3, o_mkL0, o_mkL1, o_mkL2, o_mkL3, o_maxD, o_minD, o_revT, o_revL, o_ixT0, o_ixT1, o_ixT2, o_isL, o_tupL, o_tupT, o_not, o_neg, ok_match, ok_match2, kt_int, kt_str, kt_bl, kt_tup, kt_lst, kt_non, kt_some, i_enumT, i_enumL, i_lst, i_tup, i_scr, List.getElem?_cons_zero, List.getElem?_cons_succ, List.set_cons_zero, List.set_cons_succ, List.length_cons, List.length_nil, List.length_set, List.map_cons, List.map_nil, List.cons_append, List.nil_append, List.append_nil, Option.bind_some, Option.map_some, Nat.reduceAdd, Nat.reduceLT, Nat.reduceSucc, Nat.zero_lt_succ, Nat.lt_add_left_iff_pos, eq_self, and_self, true_and, and_true, if_true_, if_false_, Int.toNat_natCast, ite_true, ite_false, Bool.not_true, Bool.not_false, Bool.false_eq_true, decide_true, decide_false, wpO_some, turn_nx, turn_ct, turn_bk, reduceCtorEq, Nat.succ_pos, Nat.succ_lt_succ_iff, isC_web hk]
  exact ⟨_, rfl⟩
variable (N : Nms n nm)
include N
theorem Nms.in' {i : Nat} (hi : i < n) : inD (.str (nm i)) (twD n nm) = .ok (.bl true) := by
  have := N.in_ (Nat.le_refl n) hi
  rwa [decide_eq_true hi] at this
theorem Nms.nin' {i : Nat} (hi : i < n) : ninD (.str (nm i)) (twD n nm) = .ok (.bl false) := by
  have := N.nin (Nat.le_refl n) hi
  rwa [decide_eq_true hi] at this
theorem place_of_c {i : Nat} (hi : i < n) : callV (F_place_of K) [webD K n nm L, .str (nm i)] = .ok (.int (i : Nat)) := by
  refine cv_rt ?_
  show Wp (m_place_of K [.val (webD K n nm L), .val (.str (nm i))]) _
  unfold m_place_of
  simp -implicitDefEqProofs only [v_pVar', v_pVarQ', v_pVarR', k_v, k_vq, k_vr, k_oq, k_or, k_or2, k_vVal, k_vFr, k_par, k_set, k_aug, k_own, k_retF, k_ix, k_ix2, k_ixL, oR_s, k_app2, k_app, k_pop3, k_pop2, k_pop, k_apL2, k_apL1, k_apL, k_cal, k_calR, k_calO, k_ch1, k_ch2, k_lst, k_fldV, k_fldO, v_setF, v_pC, v_p1, v_p2, v_p3, v_aNil, v_aCons, v_pA, v_b1, v_asB, v_bAnd, v_bOr, v_bNot, v_pIf, v_pAndK, v_pOrK, v_liftE, v_e1, v_e2, v_bNil, v_bCons, v_eA, v_vNil, v_vVal, v_vFr, v_liftB, v_q1, v_qAnd, v_qOr, v_qNot, v_eIf, v_gVar, v_gTupD, v_gsNil, v_gsCons, v_pIxLL, v_gIx, v_gIx2, v_sNext, v_sNever, v_sRetN, v_sRet, v_sRetE, v_sRetF, v_sExpr, v_sExprE, v_sIf, v_sIfE, v_seq, v_asg, v_asgE, v_own, v_ownG, v_par, v_aug, v_putNil, v_putV, v_putF, v_iAdd, v_pSl, v_oNone, v_oSome, v_eApp, v_ePop, v_eAppLL, v_eCallO, v_callO, v_i1, v_pM1, v_pChain, v_pIndex, v_aLen, v_aApp, v_pFrz, v_pAO, v_gLst, v_frz0, v_frz0l, v_frzO, v_frz1, v_frzV, v_frzU, R.bind_ok, RE.bind_ok, RE.seq_ok, R.seq_ok, R.seqB_ok, RE.bindA_ok, RA.bind_ok, RA.bindE_ok, RV.bind_ok, RB.bind_ok, RB.bindE_ok, RB.seq_ok, RE.bindB_ok, upB_ok, up_ok, RS.then_nx, RS.then_rt, RS.then_rtO, RS.then_ct, RS.then_bk, o_eqI, o_neI, o_eqB, o_or1, o_or2, o_or3, o_and1, o_and2, o_and3, Int.cast_ofNat_Int, Int.reduceEq, Int.reduceLT, Int.reduceLE, Int.reduceAdd, Int.reduceSub, Int.reduceMul, Int.reduceNeg, o_add, o_sub, o_lt, o_le, o_gt, o_ge, o_int, o_abs, o_lenL, o_lenT, o_lenS, o_isN, o_isnN, n_non, n_int, n_str, n_bl, n_tup, n_lst, n_ins, o_mkT0, o_mkT1, o_mkT2, o_mkT3, o_mkL0, o_mkL1, o_mkL2, o_mkL3, o_maxD, o_minD, o_revT, o_revL, o_ixT0, o_ixT1, o_ixT2, o_isL, o_tupL, o_tupT, o_not, o_neg, ok_match, ok_match2, kt_int, kt_str, kt_bl, kt_tup, kt_lst, kt_non, kt_some, i_enumT, i_enumL, i_lst, i_tup, i_scr, List.getElem?_cons_zero, List.getElem?_cons_succ, List.set_cons_zero, List.set_cons_succ, List.length_cons, List.length_nil, List.length_set, List.map_cons, List.map_nil, List.cons_append, List.nil_append, List.append_nil, Option.bind_some, Option.map_some, Nat.reduceAdd, Nat.reduceLT, Nat.reduceSucc, Nat.zero_lt_succ, Nat.lt_add_left_iff_pos, eq_self, and_self, true_and, and_true, if_true_, if_false_, Int.toNat_natCast, ite_true, ite_false, Bool.not_true, Bool.not_false, Bool.false_eq_true, decide_true, decide_false, wpO_some, turn_nx, turn_ct, turn_bk, reduceCtorEq, Nat.succ_pos, Nat.succ_lt_succ_iff, web_towns, N.nin' hi, N.kind, N.ix hi]
  exact isRt_ok
theorem two_places_c (hk : KW K) {i j : Nat} (hi : i < n) (hj : j < n) : callV (F_two_places K) [webD K n nm L, .str (nm i), .str (nm j)] = .ok (.tup [.int (i : Nat), .int (j : Nat)]) := by
  refine cv_rt ?_
  show Wp (m_two_places K [.val (webD K n nm L), .val (.str (nm i)), .val (.str (nm j))]) _
  unfold m_two_places
  simp -implicitDefEqProofs only [v_pVar', v_pVarQ', v_pVarR', k_v, k_vq, k_vr, k_oq, k_or, k_or2, k_vVal, k_vFr, k_par, k_set, k_aug, k_own, k_retF, k_ix, k_ix2, k_ixL, oR_s, k_app2, k_app, k_pop3, k_pop2, k_pop, k_apL2, k_apL1, k_apL, k_cal, k_calR, k_calO, k_ch1, k_ch2, k_lst, k_fldV, k_fldO, v_setF, v_pC, v_p1, v_p2, v_p3, v_aNil, v_aCons, v_pA, v_b1, v_asB, v_bAnd, v_bOr, v_bNot, v_pIf, v_pAndK, v_pOrK, v_liftE, v_e1, v_e2, v_bNil, v_bCons, v_eA, v_vNil, v_vVal, v_vFr, v_liftB, v_q1, v_qAnd, v_qOr, v_qNot, v_eIf, v_gVar, v_gTupD, v_gsNil, v_gsCons, v_pIxLL, v_gIx, v_gIx2, v_sNext, v_sNever, v_sRetN, v_sRet, v_sRetE, v_sRetF, v_sExpr, v_sExprE, v_sIf, v_sIfE, v_seq, v_asg, v_asgE, v_own, v_ownG, v_par, v_aug, v_putNil, v_putV, v_putF, v_iAdd, v_pSl, v_oNone, v_oSome, v_eApp, v_ePop, v_eAppLL, v_eCallO, v_callO, v_i1, v_pM1, v_pChain, v_pIndex, v_aLen, v_aApp, v_pFrz, v_pAO, v_gLst, v_frz0, v_frz0l, v_frzO, v_frz1, v_frzV, v_frzU, R.bind_ok, RE.bind_ok, RE.seq_ok, R.seq_ok, R.seqB_ok, RE.bindA_ok, RA.bind_ok, RA.bindE_ok, RV.bind_ok, RB.bind_ok, RB.bindE_ok, RB.seq_ok, RE.bindB_ok, upB_ok, up_ok, RS.then_nx, RS.then_rt, RS.then_rtO, RS.then_ct, RS.then_bk, o_eqI, o_neI, o_eqB, o_or1, o_or2, o_or3, o_and1, o_and2, o_and3, Int.cast_ofNat_Int, Int.reduceEq, Int.reduceLT, Int.reduceLE, Int.reduceAdd, Int.reduceSub, Int.reduceMul, Int.reduceNeg, o_add, o_sub, o_lt, o_le, o_gt, o_ge, o_int, o_abs, o_lenL, o_lenT, o_lenS, o_isN, o_isnN, n_non, n_int, n_str, n_bl, n_tup, n_lst, n_ins, o_mkT0, o_mkT1, o_mkT2, o_mkT3, o_mkL0, o_mkL1, o_mkL2, o_mkL3, o_maxD, o_minD, o_revT, o_revL, o_ixT0, o_ixT1, o_ixT2, o_isL, o_tupL, o_tupT, o_not, o_neg, ok_match, ok_match2, kt_int, kt_str, kt_bl, kt_tup, kt_lst, kt_non, kt_some, i_enumT, i_enumL, i_lst, i_tup, i_scr, List.getElem?_cons_zero, List.getElem?_cons_succ, List.set_cons_zero, List.set_cons_succ, List.length_cons, List.length_nil, List.length_set, List.map_cons, List.map_nil, List.cons_append, List.nil_append, List.append_nil, Option.bind_some, Option.map_some, Nat.reduceAdd, Nat.reduceLT, Nat.reduceSucc, Nat.zero_lt_succ, Nat.lt_add_left_iff_pos, eq_self, and_self, true_and, and_true, if_true_, if_false_, Int.toNat_natCast, ite_true, ite_false, Bool.not_true, Bool.not_false, Bool.false_eq_true, decide_true, decide_false, wpO_some, turn_nx, turn_ct, turn_bk, reduceCtorEq, Nat.succ_pos, Nat.succ_lt_succ_iff, check_web_c hk, place_of_c N hi, place_of_c N hj]
  exact isRt_ok
theorem distance_c (hk : KW K) {i j : Nat} (hi : i < n) (hj : j < n) : callV (F_distance K) [webD K n nm L, .str (nm i), .str (nm j)] = .ok (.int (dst L i j : Nat)) := by
  refine cv_rt ?_
  have hn : n ≤ 1000 := by have := N.hi; omega
  have a1 := ix_arrT (g := fun i => D.tup (arr n fun j => .int (dst L i j : Nat))) hi
  have a2 := ix_arrT (g := fun j => D.int (dst L i j : Nat)) hj
  show Wp (m_distance K [.val (webD K n nm L), .val (.str (nm i)), .val (.str (nm j)), .un, .un]) _
  unfold m_distance
  simp -implicitDefEqProofs only [v_pVar', v_pVarQ', v_pVarR', k_v, k_vq, k_vr, k_oq, k_or, k_or2, k_vVal, k_vFr, k_par, k_set, k_aug, k_own, k_retF, k_ix, k_ix2, k_ixL, oR_s, k_app2, k_app, k_pop3, k_pop2, k_pop, k_apL2, k_apL1, k_apL, k_cal, k_calR, k_calO, k_ch1, k_ch2, k_lst, k_fldV, k_fldO, v_setF, v_pC, v_p1, v_p2, v_p3, v_aNil, v_aCons, v_pA, v_b1, v_asB, v_bAnd, v_bOr, v_bNot, v_pIf, v_pAndK, v_pOrK, v_liftE, v_e1, v_e2, v_bNil, v_bCons, v_eA, v_vNil, v_vVal, v_vFr, v_liftB, v_q1, v_qAnd, v_qOr, v_qNot, v_eIf, v_gVar, v_gTupD, v_gsNil, v_gsCons, v_pIxLL, v_gIx, v_gIx2, v_sNext, v_sNever, v_sRetN, v_sRet, v_sRetE, v_sRetF, v_sExpr, v_sExprE, v_sIf, v_sIfE, v_seq, v_asg, v_asgE, v_own, v_ownG, v_par, v_aug, v_putNil, v_putV, v_putF, v_iAdd, v_pSl, v_oNone, v_oSome, v_eApp, v_ePop, v_eAppLL, v_eCallO, v_callO, v_i1, v_pM1, v_pChain, v_pIndex, v_aLen, v_aApp, v_pFrz, v_pAO, v_gLst, v_frz0, v_frz0l, v_frzO, v_frz1, v_frzV, v_frzU, R.bind_ok, RE.bind_ok, RE.seq_ok, R.seq_ok, R.seqB_ok, RE.bindA_ok, RA.bind_ok, RA.bindE_ok, RV.bind_ok, RB.bind_ok, RB.bindE_ok, RB.seq_ok, RE.bindB_ok, upB_ok, up_ok, RS.then_nx, RS.then_rt, RS.then_rtO, RS.then_ct, RS.then_bk, o_eqI, o_neI, o_eqB, o_or1, o_or2, o_or3, o_and1, o_and2, o_and3, Int.cast_ofNat_Int, Int.reduceEq, Int.reduceLT, Int.reduceLE, Int.reduceAdd, Int.reduceSub, Int.reduceMul, Int.reduceNeg, o_add, o_sub, o_lt, o_le, o_gt, o_ge, o_int, o_abs, o_lenL, o_lenT, o_lenS, o_isN, o_isnN, n_non, n_int, n_str, n_bl, n_tup, n_lst, n_ins, o_mkT0, o_mkT1, o_mkT2, o_mkT3, o_mkL0, o_mkL1, o_mkL2, o_mkL3, o_maxD, o_minD, o_revT, o_revL, o_ixT0, o_ixT1, o_ixT2, o_isL, o_tupL, o_tupT, o_not, o_neg, ok_match, ok_match2, kt_int, kt_str, kt_bl, kt_tup, kt_lst, kt_non, kt_some, i_enumT, i_enumL, i_lst, i_tup, i_scr, List.getElem?_cons_zero, List.getElem?_cons_succ, List.set_cons_zero, List.set_cons_succ, List.length_cons, List.length_nil, List.length_set, List.map_cons, List.map_nil, List.cons_append, List.nil_append, List.append_nil, Option.bind_some, Option.map_some, Nat.reduceAdd, Nat.reduceLT, Nat.reduceSucc, Nat.zero_lt_succ, Nat.lt_add_left_iff_pos, eq_self, and_self, true_and, and_true, if_true_, if_false_, Int.toNat_natCast, ite_true, ite_false, Bool.not_true, Bool.not_false, Bool.false_eq_true, decide_true, decide_false, wpO_some, turn_nx, turn_ct, turn_bk, reduceCtorEq, Nat.succ_pos, Nat.succ_lt_succ_iff, two_places_c N hk hi hj, web_far hn, distT, a1, a2]
  exact isRt_ok
omit N in
theorem distances_c (hk : KW K) (hn : n ≤ 1000) : callV (F_distances K) [webD K n nm L] = .ok (.tup (distT n L)) := by
  refine cv_rt ?_
  show Wp (m_distances K [.val (webD K n nm L)]) _
  unfold m_distances
  simp -implicitDefEqProofs only [v_pVar', v_pVarQ', v_pVarR', k_v, k_vq, k_vr, k_oq, k_or, k_or2, k_vVal, k_vFr, k_par, k_set, k_aug, k_own, k_retF, k_ix, k_ix2, k_ixL, oR_s, k_app2, k_app, k_pop3, k_pop2, k_pop, k_apL2, k_apL1, k_apL, k_cal, k_calR, k_calO, k_ch1, k_ch2, k_lst, k_fldV, k_fldO, v_setF, v_pC, v_p1, v_p2, v_p3, v_aNil, v_aCons, v_pA, v_b1, v_asB, v_bAnd, v_bOr, v_bNot, v_pIf, v_pAndK, v_pOrK, v_liftE, v_e1, v_e2, v_bNil, v_bCons, v_eA, v_vNil, v_vVal, v_vFr, v_liftB, v_q1, v_qAnd, v_qOr, v_qNot, v_eIf, v_gVar, v_gTupD, v_gsNil, v_gsCons, v_pIxLL, v_gIx, v_gIx2, v_sNext, v_sNever, v_sRetN, v_sRet, v_sRetE, v_sRetF, v_sExpr, v_sExprE, v_sIf, v_sIfE, v_seq, v_asg, v_asgE, v_own, v_ownG, v_par, v_aug, v_putNil, v_putV, v_putF, v_iAdd, v_pSl, v_oNone, v_oSome, v_eApp, v_ePop, v_eAppLL, v_eCallO, v_callO, v_i1, v_pM1, v_pChain, v_pIndex, v_aLen, v_aApp, v_pFrz, v_pAO, v_gLst, v_frz0, v_frz0l, v_frzO, v_frz1, v_frzV, v_frzU, R.bind_ok, RE.bind_ok, RE.seq_ok, R.seq_ok, R.seqB_ok, RE.bindA_ok, RA.bind_ok, RA.bindE_ok, RV.bind_ok, RB.bind_ok, RB.bindE_ok, RB.seq_ok, RE.bindB_ok, upB_ok, up_ok, RS.then_nx, RS.then_rt, RS.then_rtO, RS.then_ct, RS.then_bk, o_eqI, o_neI, o_eqB, o_or1, o_or2, o_or3, o_and1, o_and2, o_and3, Int.cast_ofNat_Int, Int.reduceEq, Int.reduceLT, Int.reduceLE, Int.reduceAdd, Int.reduceSub, Int.reduceMul, Int.reduceNeg, o_add, o_sub, o_lt, o_le, o_gt, o_ge, o_int, o_abs, o_lenL, o_lenT, o_lenS, o_isN, o_isnN, n_non, n_int, n_str, n_bl, n_tup, n_lst, n_ins, o_mkT0, o_mkT1, o_mkT2, o_mkT3, o_mkL0, o_mkL1, o_mkL2, o_mkL3, o_maxD, o_minD, o_revT, o_revL, o_ixT0, o_ixT1, o_ixT2, o_isL, o_tupL, o_tupT, o_not, o_neg, ok_match, ok_match2, kt_int, kt_str, kt_bl, kt_tup, kt_lst, kt_non, kt_some, i_enumT, i_enumL, i_lst, i_tup, i_scr, List.getElem?_cons_zero, List.getElem?_cons_succ, List.set_cons_zero, List.set_cons_succ, List.length_cons, List.length_nil, List.length_set, List.map_cons, List.map_nil, List.cons_append, List.nil_append, List.append_nil, Option.bind_some, Option.map_some, Nat.reduceAdd, Nat.reduceLT, Nat.reduceSucc, Nat.zero_lt_succ, Nat.lt_add_left_iff_pos, eq_self, and_self, true_and, and_true, if_true_, if_false_, Int.toNat_natCast, ite_true, ite_false, Bool.not_true, Bool.not_false, Bool.false_eq_true, decide_true, decide_false, wpO_some, turn_nx, turn_ct, turn_bk, reduceCtorEq, Nat.succ_pos, Nat.succ_lt_succ_iff, check_web_c hk, web_far hn]
  exact isRt_ok
end
end MA

set_option Elab.async false
set_option linter.all false
set_option maxRecDepth 100000
set_option maxHeartbeats 4000000
/-! Names and ties drawn. -/
namespace MA
open PySem PySem.Spec PyProof.Rows L2 He DL DM Gr
theorem drop1 {o : Ow} (h : PhOk o) {top : Int} (ht : 0 < top) (ht2 : top < 1073741824) : ∃ (r : Nat) (o' : Ow), F__law_drop [.own 1 o, .val (.int top)] = .ok (.rt (.int r)) [.own 1 o', .val (.int top)] ∧ (r : Int) < top ∧ PhOk o' := drop_at h ht ht2
theorem len_tw {n : Nat} {nm : Nat → Str} : lenD (twD n nm) = .ok (.int (n : Nat)) := by
  show R.ok (D.int ((twA n nm).length : Nat)) = _
  unfold twA; rw [arr_len]
theorem ix_tw {n : Nat} {nm : Nat → Str} {i : Nat} (h : i < n) : ixD (twD n nm) (.int (i : Nat)) = .ok (.str (nm i)) := ix_arrT h
theorem from1 {o : Ow} (h : PhOk o) {n : Nat} {nm : Nat → Str} (h0 : 0 < n) (hn : n < 1000000) : ∃ (r : Nat) (o' : Ow), F__law_from [.own 1 o, .val (twD n nm)] = .ok (.rt (.str (nm r))) [.own 1 o', .val (twD n nm)] ∧ r < n ∧ PhOk o' := by
  obtain ⟨r, d, o', e, hr, ho⟩ := from_at h (xs := twA n nm) (fun z => by have := congrArg List.length z; unfold twA at this; rw [arr_len] at this; simp at this; omega) (by unfold twA; rw [arr_len]; omega)
  have hlt : r < n := by
    have := (List.getElem?_eq_some_iff.mp hr).1
    unfold twA at this; rwa [arr_len] at this
  unfold twA at hr
  rw [arr_get hlt] at hr
  cases hr
  exact ⟨r, o', e, hlt, ho⟩
theorem tie_rev {nm : Nat → Str} {p : Nat × Nat} : revD (tieD nm p) = .ok (tieD nm (p.2, p.1)) := rfl
theorem tiA_len {nm : Nat → Str} {L : Es} : (tiA nm L).length = L.length := by unfold tiA; rw [List.length_map]
theorem tiA_push {nm : Nat → Str} {L : Es} {a b : Nat} : tiA nm L ++ [.tup [.str (nm a), .str (nm b)]] = tiA nm (L ++ [(a, b)]) := by unfold tiA; rw [List.map_append]; rfl
theorem tiA_push' {nm : Nat → Str} {L : Es} {p : Nat × Nat} : tiA nm L ++ [tieD nm p] = tiA nm (L ++ [p]) := by unfold tiA; rw [List.map_append]; rfl
section
variable {n : Nat} {nm : Nat → Str} (N : Nms n nm)
include N
theorem links_c {o : Ow} (ho : PhOk o) {more : Nat} (hm : more ≤ 1000) : ∃ (L : Es) (o' : Ow), F__law_links [.own 1 o, .val (twD n nm), .val (.int (more : Nat))] = .ok (.rt (tiD nm L)) [.own 1 o', .val (twD n nm), .val (.int (more : Nat))] ∧ PhOk o' ∧ Bd n L ∧ Hang L n ∧ L.length + 1 ≤ n + more := by
  have hlo := N.lo
  have hhi := N.hi
  suffices h : Wp (m__law_links [.own 1 o, .val (twD n nm), .val (.int (more : Nat)), .un, .un, .un, .un, .un, .un, .un]) fun r => ∃ (L : Es) (o' : Ow) (rest : List Sl), r = .ok (.rt (tiD nm L)) (.own 1 o' :: .val (twD n nm) :: .val (.int (more : Nat)) :: rest) ∧ PhOk o' ∧ Bd n L ∧ Hang L n ∧ L.length + 1 ≤ n + more by
    obtain ⟨L, o', rest, h1, h2⟩ := h
    exact ⟨L, o', (runF_rt (nl := 7) (m := m__law_links) (ρ := [.own 1 o, .val (twD n nm), .val (.int (more : Nat))]) h1).trans rfl, h2⟩
  unfold m__law_links
  simp -implicitDefEqProofs only [v_pVar', v_pVarQ', v_pVarR', k_v, k_vq, k_vr, k_oq, k_or, k_or2, k_vVal, k_vFr, k_par, k_set, k_aug, k_own, k_retF, k_ix, k_ix2, k_ixL, oR_s, k_app2, k_app, k_pop3, k_pop2, k_pop, k_apL2, k_apL1, k_apL, k_cal, k_calR, k_calO, k_ch1, k_ch2, k_lst, k_fldV, k_fldO, v_setF, v_pC, v_p1, v_p2, v_p3, v_aNil, v_aCons, v_pA, v_b1, v_asB, v_bAnd, v_bOr, v_bNot, v_pIf, v_pAndK, v_pOrK, v_liftE, v_e1, v_e2, v_bNil, v_bCons, v_eA, v_vNil, v_vVal, v_vFr, v_liftB, v_q1, v_qAnd, v_qOr, v_qNot, v_eIf, v_gVar, v_gTupD, v_gsNil, v_gsCons, v_pIxLL, v_gIx, v_gIx2, v_sNext, v_sNever, v_sRetN, v_sRet, v_sRetE, v_sRetF, v_sExpr, v_sExprE, v_sIf, v_sIfE, v_seq, v_asg, v_asgE, v_own, v_ownG, v_par, v_aug, v_putNil, v_putV, v_putF, v_iAdd, v_pSl, v_oNone, v_oSome, v_eApp, v_ePop, v_eAppLL, v_eCallO, v_callO, v_i1, v_pM1, v_pChain, v_pIndex, v_aLen, v_aApp, v_pFrz, v_pAO, v_gLst, v_frz0, v_frz0l, v_frzO, v_frz1, v_frzV, v_frzU, R.bind_ok, RE.bind_ok, RE.seq_ok, R.seq_ok, R.seqB_ok, RE.bindA_ok, RA.bind_ok, RA.bindE_ok, RV.bind_ok, RB.bind_ok, RB.bindE_ok, RB.seq_ok, RE.bindB_ok, upB_ok, up_ok, RS.then_nx, RS.then_rt, RS.then_rtO, RS.then_ct, RS.then_bk, o_eqI, o_neI, o_eqB, o_or1, o_or2, o_or3, o_and1, o_and2, o_and3, Int.cast_ofNat_Int, Int.reduceEq, Int.reduceLT, Int.reduceLE, Int.reduceAdd, Int.reduceSub, Int.reduceMul, Int.reduceNeg, o_add, o_sub, o_lt, o_le, o_gt, o_ge, o_int, o_abs, o_lenL, o_lenT, o_lenS, o_isN, o_isnN, n_non, n_int, n_str, n_bl, n_tup, n_lst, n_ins, o_mkT0, o_mkT1, o_mkT2, o_mkT3, o_mkL0, o_mkL1, o_mkL2, o_mkL3, o_maxD, o_minD, o_revT, o_revL, o_ixT0, o_ixT1, o_ixT2, o_isL, o_tupL, o_tupT, o_not, o_neg, ok_match, ok_match2, kt_int, kt_str, kt_bl, kt_tup, kt_lst, kt_non, kt_some, i_enumT, i_enumL, i_lst, i_tup, i_scr, List.getElem?_cons_zero, List.getElem?_cons_succ, List.set_cons_zero, List.set_cons_succ, List.length_cons, List.length_nil, List.length_set, List.map_cons, List.map_nil, List.cons_append, List.nil_append, List.append_nil, Option.bind_some, Option.map_some, Nat.reduceAdd, Nat.reduceLT, Nat.reduceSucc, Nat.zero_lt_succ, Nat.lt_add_left_iff_pos, eq_self, and_self, true_and, and_true, if_true_, if_false_, Int.toNat_natCast, ite_true, ite_false, Bool.not_true, Bool.not_false, Bool.false_eq_true, decide_true, decide_false, wpO_some, turn_nx, turn_ct, turn_bk, reduceCtorEq, Nat.succ_pos, Nat.succ_lt_succ_iff]
  refine wp_for (fun k : Nat => .int k) (fun j ρ => ∃ o E s4, PhOk o ∧ Bd (j + 1) E ∧ Hang E (j + 1) ∧ E.length = j ∧ ρ = [.own 1 o, .val (twD n nm), .val (.int (more : Nat)), .own 0 (.lst (tiA nm E)), s4, .un, .un, .un, .un, .un]) (List.range' 1 (n - 1)) ?_ ?_ ?_ ?_
  · exact v_range2 (a := 1) rfl (by simp -implicitDefEqProofs only [v_pVar', v_pVarQ', v_pVarR', k_v, k_vq, k_vr, k_oq, k_or, k_or2, k_vVal, k_vFr, k_par, k_set, k_aug, k_own, k_retF, k_ix, k_ix2, k_ixL, oR_s, k_app2, k_app, k_pop3, k_pop2, k_pop, k_apL2, k_apL1, k_apL, k_cal, k_calR, k_calO, k_ch1, k_ch2, k_lst, k_fldV, k_fldO, v_setF, v_pC, v_p1, v_p2, v_p3, v_aNil, v_aCons, v_pA, v_b1, v_asB, v_bAnd, v_bOr, v_bNot, v_pIf, v_pAndK, v_pOrK, v_liftE, v_e1, v_e2, v_bNil, v_bCons, v_eA, v_vNil, v_vVal, v_vFr, v_liftB, v_q1, v_qAnd, v_qOr, v_qNot, v_eIf, v_gVar, v_gTupD, v_gsNil, v_gsCons, v_pIxLL, v_gIx, v_gIx2, v_sNext, v_sNever, v_sRetN, v_sRet, v_sRetE, v_sRetF, v_sExpr, v_sExprE, v_sIf, v_sIfE, v_seq, v_asg, v_asgE, v_own, v_ownG, v_par, v_aug, v_putNil, v_putV, v_putF, v_iAdd, v_pSl, v_oNone, v_oSome, v_eApp, v_ePop, v_eAppLL, v_eCallO, v_callO, v_i1, v_pM1, v_pChain, v_pIndex, v_aLen, v_aApp, v_pFrz, v_pAO, v_gLst, v_frz0, v_frz0l, v_frzO, v_frz1, v_frzV, v_frzU, R.bind_ok, RE.bind_ok, RE.seq_ok, R.seq_ok, R.seqB_ok, RE.bindA_ok, RA.bind_ok, RA.bindE_ok, RV.bind_ok, RB.bind_ok, RB.bindE_ok, RB.seq_ok, RE.bindB_ok, upB_ok, up_ok, RS.then_nx, RS.then_rt, RS.then_rtO, RS.then_ct, RS.then_bk, o_eqI, o_neI, o_eqB, o_or1, o_or2, o_or3, o_and1, o_and2, o_and3, Int.cast_ofNat_Int, Int.reduceEq, Int.reduceLT, Int.reduceLE, Int.reduceAdd, Int.reduceSub, Int.reduceMul, Int.reduceNeg, o_add, o_sub, o_lt, o_le, o_gt, o_ge, o_int, o_abs, o_lenL, o_lenT, o_lenS, o_isN, o_isnN, n_non, n_int, n_str, n_bl, n_tup, n_lst, n_ins, o_mkT0, o_mkT1, o_mkT2, o_mkT3, o_mkL0, o_mkL1, o_mkL2, o_mkL3, o_maxD, o_minD, o_revT, o_revL, o_ixT0, o_ixT1, o_ixT2, o_isL, o_tupL, o_tupT, o_not, o_neg, ok_match, ok_match2, kt_int, kt_str, kt_bl, kt_tup, kt_lst, kt_non, kt_some, i_enumT, i_enumL, i_lst, i_tup, i_scr, List.getElem?_cons_zero, List.getElem?_cons_succ, List.set_cons_zero, List.set_cons_succ, List.length_cons, List.length_nil, List.length_set, List.map_cons, List.map_nil, List.cons_append, List.nil_append, List.append_nil, Option.bind_some, Option.map_some, Nat.reduceAdd, Nat.reduceLT, Nat.reduceSucc, Nat.zero_lt_succ, Nat.lt_add_left_iff_pos, eq_self, and_self, true_and, and_true, if_true_, if_false_, Int.toNat_natCast, ite_true, ite_false, Bool.not_true, Bool.not_false, Bool.false_eq_true, decide_true, decide_false, wpO_some, turn_nx, turn_ct, turn_bk, reduceCtorEq, Nat.succ_pos, Nat.succ_lt_succ_iff, len_tw]) hlo (by omega)
  · exact ⟨o, [], _, ho, .nil _, .one _, rfl, rfl⟩
  · rintro j x _ hx ⟨o, E, s4, ho, hE, hH, hl, rfl⟩
    obtain ⟨h1, h2⟩ := List.getElem?_eq_some_iff.mp hx
    rw [List.length_range'] at h1
    have hxj : x = j + 1 := by rw [← h2, List.getElem_range']; omega
    subst hxj
    obtain ⟨r, o', e, hr, ho'⟩ := drop1 ho (top := ((j + 1 : Nat) : Int)) (by omega) (by omega)
    have hr' : r < j + 1 := by omega
    have lz : (tiA nm E).length < sizeLine := by rw [tiA_len]; exact lt_size (by omega)
    simp -implicitDefEqProofs only [v_pVar', v_pVarQ', v_pVarR', k_v, k_vq, k_vr, k_oq, k_or, k_or2, k_vVal, k_vFr, k_par, k_set, k_aug, k_own, k_retF, k_ix, k_ix2, k_ixL, oR_s, k_app2, k_app, k_pop3, k_pop2, k_pop, k_apL2, k_apL1, k_apL, k_cal, k_calR, k_calO, k_ch1, k_ch2, k_lst, k_fldV, k_fldO, v_setF, v_pC, v_p1, v_p2, v_p3, v_aNil, v_aCons, v_pA, v_b1, v_asB, v_bAnd, v_bOr, v_bNot, v_pIf, v_pAndK, v_pOrK, v_liftE, v_e1, v_e2, v_bNil, v_bCons, v_eA, v_vNil, v_vVal, v_vFr, v_liftB, v_q1, v_qAnd, v_qOr, v_qNot, v_eIf, v_gVar, v_gTupD, v_gsNil, v_gsCons, v_pIxLL, v_gIx, v_gIx2, v_sNext, v_sNever, v_sRetN, v_sRet, v_sRetE, v_sRetF, v_sExpr, v_sExprE, v_sIf, v_sIfE, v_seq, v_asg, v_asgE, v_own, v_ownG, v_par, v_aug, v_putNil, v_putV, v_putF, v_iAdd, v_pSl, v_oNone, v_oSome, v_eApp, v_ePop, v_eAppLL, v_eCallO, v_callO, v_i1, v_pM1, v_pChain, v_pIndex, v_aLen, v_aApp, v_pFrz, v_pAO, v_gLst, v_frz0, v_frz0l, v_frzO, v_frz1, v_frzV, v_frzU, R.bind_ok, RE.bind_ok, RE.seq_ok, R.seq_ok, R.seqB_ok, RE.bindA_ok, RA.bind_ok, RA.bindE_ok, RV.bind_ok, RB.bind_ok, RB.bindE_ok, RB.seq_ok, RE.bindB_ok, upB_ok, up_ok, RS.then_nx, RS.then_rt, RS.then_rtO, RS.then_ct, RS.then_bk, o_eqI, o_neI, o_eqB, o_or1, o_or2, o_or3, o_and1, o_and2, o_and3, Int.cast_ofNat_Int, Int.reduceEq, Int.reduceLT, Int.reduceLE, Int.reduceAdd, Int.reduceSub, Int.reduceMul, Int.reduceNeg, o_add, o_sub, o_lt, o_le, o_gt, o_ge, o_int, o_abs, o_lenL, o_lenT, o_lenS, o_isN, o_isnN, n_non, n_int, n_str, n_bl, n_tup, n_lst, n_ins, o_mkT0, o_mkT1, o_mkT2, o_mkT3, o_mkL0, o_mkL1, o_mkL2, o_mkL3, o_maxD, o_minD, o_revT, o_revL, o_ixT0, o_ixT1, o_ixT2, o_isL, o_tupL, o_tupT, o_not, o_neg, ok_match, ok_match2, kt_int, kt_str, kt_bl, kt_tup, kt_lst, kt_non, kt_some, i_enumT, i_enumL, i_lst, i_tup, i_scr, List.getElem?_cons_zero, List.getElem?_cons_succ, List.set_cons_zero, List.set_cons_succ, List.length_cons, List.length_nil, List.length_set, List.map_cons, List.map_nil, List.cons_append, List.nil_append, List.append_nil, Option.bind_some, Option.map_some, Nat.reduceAdd, Nat.reduceLT, Nat.reduceSucc, Nat.zero_lt_succ, Nat.lt_add_left_iff_pos, eq_self, and_self, true_and, and_true, if_true_, if_false_, Int.toNat_natCast, ite_true, ite_false, Bool.not_true, Bool.not_false, Bool.false_eq_true, decide_true, decide_false, wpO_some, turn_nx, turn_ct, turn_bk, reduceCtorEq, Nat.succ_pos, Nat.succ_lt_succ_iff, ix_tw (nm := nm) (show j + 1 < n by omega), ix_tw (nm := nm) (show r < n by omega), e, lz, tiA_push]
    refine ⟨_, _, _, ho', ?_, hH.grow hr', ?_, rfl⟩
    · refine (hE.mono (by omega)).push (by omega) (by omega) (by omega) (fun z => ?_) (fun z => ?_)
      · have := hE.w _ z; dsimp only at this; omega
      · have := hE.w _ z; dsimp only at this; omega
    · simp [hl]
  rintro _ ⟨o, E, s4, ho, hE, hH, hl, rfl⟩
  rw [List.length_range'] at hE hH hl
  rw [show n - 1 + 1 = n by omega] at hE hH
  rw [v_seq]
  -- how many more
  obtain ⟨m, o1, hm1, ho1, hcount⟩ : ∃ (m : Nat) (o1 : Ow), m ≤ more ∧ PhOk o1 ∧ eIf (liftB (b1 asB (p2 gtD (p1 lenD (pVar 1)) (pC (.int 2))))) (eCallO F__law_drop 0 (bCons (liftE (p2 addD (pVar 2) (pC (.int 1)))) bNil)) (liftE (pC (.int 0))) [.own 1 o, .val (twD n nm), .val (.int (more : Nat)), .own 0 (.lst (tiA nm E)), s4, .un, .un, .un, .un, .un] = .ok (.int (m : Nat)) [.own 1 o1, .val (twD n nm), .val (.int (more : Nat)), .own 0 (.lst (tiA nm E)), s4, .un, .un, .un, .un, .un] := by
    by_cases h2 : (2 : Int) < (n : Int)
    · obtain ⟨r, o', e, hr, ho'⟩ := drop1 ho (top := (more : Int) + 1) (by omega) (by omega)
      refine ⟨r, o', by omega, ho', ?_⟩
      simp -implicitDefEqProofs only [v_pVar', v_pVarQ', v_pVarR', k_v, k_vq, k_vr, k_oq, k_or, k_or2, k_vVal, k_vFr, k_par, k_set, k_aug, k_own, k_retF, k_ix, k_ix2, k_ixL, oR_s, k_app2, k_app, k_pop3, k_pop2, k_pop, k_apL2, k_apL1, k_apL, k_cal, k_calR, k_calO, k_ch1, k_ch2, k_lst, k_fldV, k_fldO, v_setF, v_pC, v_p1, v_p2, v_p3, v_aNil, v_aCons, v_pA, v_b1, v_asB, v_bAnd, v_bOr, v_bNot, v_pIf, v_pAndK, v_pOrK, v_liftE, v_e1, v_e2, v_bNil, v_bCons, v_eA, v_vNil, v_vVal, v_vFr, v_liftB, v_q1, v_qAnd, v_qOr, v_qNot, v_eIf, v_gVar, v_gTupD, v_gsNil, v_gsCons, v_pIxLL, v_gIx, v_gIx2, v_sNext, v_sNever, v_sRetN, v_sRet, v_sRetE, v_sRetF, v_sExpr, v_sExprE, v_sIf, v_sIfE, v_seq, v_asg, v_asgE, v_own, v_ownG, v_par, v_aug, v_putNil, v_putV, v_putF, v_iAdd, v_pSl, v_oNone, v_oSome, v_eApp, v_ePop, v_eAppLL, v_eCallO, v_callO, v_i1, v_pM1, v_pChain, v_pIndex, v_aLen, v_aApp, v_pFrz, v_pAO, v_gLst, v_frz0, v_frz0l, v_frzO, v_frz1, v_frzV, v_frzU, R.bind_ok, RE.bind_ok, RE.seq_ok, R.seq_ok, R.seqB_ok, RE.bindA_ok, RA.bind_ok, RA.bindE_ok, RV.bind_ok, RB.bind_ok, RB.bindE_ok, RB.seq_ok, RE.bindB_ok, upB_ok, up_ok, RS.then_nx, RS.then_rt, RS.then_rtO, RS.then_ct, RS.then_bk, o_eqI, o_neI, o_eqB, o_or1, o_or2, o_or3, o_and1, o_and2, o_and3, Int.cast_ofNat_Int, Int.reduceEq, Int.reduceLT, Int.reduceLE, Int.reduceAdd, Int.reduceSub, Int.reduceMul, Int.reduceNeg, o_add, o_sub, o_lt, o_le, o_gt, o_ge, o_int, o_abs, o_lenL, o_lenT, o_lenS, o_isN, o_isnN, n_non, n_int, n_str, n_bl, n_tup, n_lst, n_ins, o_mkT0, o_mkT1, o_mkT2, o_mkT3, o_mkL0, o_mkL1, o_mkL2, o_mkL3, o_maxD, o_minD, o_revT, o_revL, o_ixT0, o_ixT1, o_ixT2, o_isL, o_tupL, o_tupT, o_not, o_neg, ok_match, ok_match2, kt_int, kt_str, kt_bl, kt_tup, kt_lst, kt_non, kt_some, i_enumT, i_enumL, i_lst, i_tup, i_scr, List.getElem?_cons_zero, List.getElem?_cons_succ, List.set_cons_zero, List.set_cons_succ, List.length_cons, List.length_nil, List.length_set, List.map_cons, List.map_nil, List.cons_append, List.nil_append, List.append_nil, Option.bind_some, Option.map_some, Nat.reduceAdd, Nat.reduceLT, Nat.reduceSucc, Nat.zero_lt_succ, Nat.lt_add_left_iff_pos, eq_self, and_self, true_and, and_true, if_true_, if_false_, Int.toNat_natCast, ite_true, ite_false, Bool.not_true, Bool.not_false, Bool.false_eq_true, decide_true, decide_false, wpO_some, turn_nx, turn_ct, turn_bk, reduceCtorEq, Nat.succ_pos, Nat.succ_lt_succ_iff, len_tw, h2, e]
    · refine ⟨0, o, by omega, ho, ?_⟩
      simp -implicitDefEqProofs only [v_pVar', v_pVarQ', v_pVarR', k_v, k_vq, k_vr, k_oq, k_or, k_or2, k_vVal, k_vFr, k_par, k_set, k_aug, k_own, k_retF, k_ix, k_ix2, k_ixL, oR_s, k_app2, k_app, k_pop3, k_pop2, k_pop, k_apL2, k_apL1, k_apL, k_cal, k_calR, k_calO, k_ch1, k_ch2, k_lst, k_fldV, k_fldO, v_setF, v_pC, v_p1, v_p2, v_p3, v_aNil, v_aCons, v_pA, v_b1, v_asB, v_bAnd, v_bOr, v_bNot, v_pIf, v_pAndK, v_pOrK, v_liftE, v_e1, v_e2, v_bNil, v_bCons, v_eA, v_vNil, v_vVal, v_vFr, v_liftB, v_q1, v_qAnd, v_qOr, v_qNot, v_eIf, v_gVar, v_gTupD, v_gsNil, v_gsCons, v_pIxLL, v_gIx, v_gIx2, v_sNext, v_sNever, v_sRetN, v_sRet, v_sRetE, v_sRetF, v_sExpr, v_sExprE, v_sIf, v_sIfE, v_seq, v_asg, v_asgE, v_own, v_ownG, v_par, v_aug, v_putNil, v_putV, v_putF, v_iAdd, v_pSl, v_oNone, v_oSome, v_eApp, v_ePop, v_eAppLL, v_eCallO, v_callO, v_i1, v_pM1, v_pChain, v_pIndex, v_aLen, v_aApp, v_pFrz, v_pAO, v_gLst, v_frz0, v_frz0l, v_frzO, v_frz1, v_frzV, v_frzU, R.bind_ok, RE.bind_ok, RE.seq_ok, R.seq_ok, R.seqB_ok, RE.bindA_ok, RA.bind_ok, RA.bindE_ok, RV.bind_ok, RB.bind_ok, RB.bindE_ok, RB.seq_ok, RE.bindB_ok, upB_ok, up_ok, RS.then_nx, RS.then_rt, RS.then_rtO, RS.then_ct, RS.then_bk, o_eqI, o_neI, o_eqB, o_or1, o_or2, o_or3, o_and1, o_and2, o_and3, Int.cast_ofNat_Int, Int.reduceEq, Int.reduceLT, Int.reduceLE, Int.reduceAdd, Int.reduceSub, Int.reduceMul, Int.reduceNeg, o_add, o_sub, o_lt, o_le, o_gt, o_ge, o_int, o_abs, o_lenL, o_lenT, o_lenS, o_isN, o_isnN, n_non, n_int, n_str, n_bl, n_tup, n_lst, n_ins, o_mkT0, o_mkT1, o_mkT2, o_mkT3, o_mkL0, o_mkL1, o_mkL2, o_mkL3, o_maxD, o_minD, o_revT, o_revL, o_ixT0, o_ixT1, o_ixT2, o_isL, o_tupL, o_tupT, o_not, o_neg, ok_match, ok_match2, kt_int, kt_str, kt_bl, kt_tup, kt_lst, kt_non, kt_some, i_enumT, i_enumL, i_lst, i_tup, i_scr, List.getElem?_cons_zero, List.getElem?_cons_succ, List.set_cons_zero, List.set_cons_succ, List.length_cons, List.length_nil, List.length_set, List.map_cons, List.map_nil, List.cons_append, List.nil_append, List.append_nil, Option.bind_some, Option.map_some, Nat.reduceAdd, Nat.reduceLT, Nat.reduceSucc, Nat.zero_lt_succ, Nat.lt_add_left_iff_pos, eq_self, and_self, true_and, and_true, if_true_, if_false_, Int.toNat_natCast, ite_true, ite_false, Bool.not_true, Bool.not_false, Bool.false_eq_true, decide_true, decide_false, wpO_some, turn_nx, turn_ct, turn_bk, reduceCtorEq, Nat.succ_pos, Nat.succ_lt_succ_iff, len_tw, h2]
  refine wp_rangeE (fun j ρ => ∃ o E' s4 s5 s8 s9, PhOk o ∧ Bd n E' ∧ Hang E' n ∧ E'.length ≤ n - 1 + j ∧ ρ = [.own 1 o, .val (twD n nm), .val (.int (more : Nat)), .own 0 (.lst (tiA nm E')), s4, s5, .un, .un, s8, s9]) m (j_range1 hcount (by omega)) ?_ ?_ ?_
  · exact ⟨o1, E, _, _, _, _, ho1, hE, hH, by omega, rfl⟩
  · rintro j _ hj ⟨o, E', s4, s5, s8, s9, ho, hE, hH, hl, rfl⟩
    obtain ⟨a, oa, ea, ha, hoa⟩ := from1 ho (n := n) (nm := nm) (by omega) (by omega)
    obtain ⟨b, ob, eb, hb, hob⟩ := from1 hoa (n := n) (nm := nm) (by omega) (by omega)
    have lz : (tiA nm E').length < sizeLine := by rw [tiA_len]; exact lt_size (by omega)
    by_cases c1 : a = b
    · subst c1
      simp -implicitDefEqProofs only [v_pVar', v_pVarQ', v_pVarR', k_v, k_vq, k_vr, k_oq, k_or, k_or2, k_vVal, k_vFr, k_par, k_set, k_aug, k_own, k_retF, k_ix, k_ix2, k_ixL, oR_s, k_app2, k_app, k_pop3, k_pop2, k_pop, k_apL2, k_apL1, k_apL, k_cal, k_calR, k_calO, k_ch1, k_ch2, k_lst, k_fldV, k_fldO, v_setF, v_pC, v_p1, v_p2, v_p3, v_aNil, v_aCons, v_pA, v_b1, v_asB, v_bAnd, v_bOr, v_bNot, v_pIf, v_pAndK, v_pOrK, v_liftE, v_e1, v_e2, v_bNil, v_bCons, v_eA, v_vNil, v_vVal, v_vFr, v_liftB, v_q1, v_qAnd, v_qOr, v_qNot, v_eIf, v_gVar, v_gTupD, v_gsNil, v_gsCons, v_pIxLL, v_gIx, v_gIx2, v_sNext, v_sNever, v_sRetN, v_sRet, v_sRetE, v_sRetF, v_sExpr, v_sExprE, v_sIf, v_sIfE, v_seq, v_asg, v_asgE, v_own, v_ownG, v_par, v_aug, v_putNil, v_putV, v_putF, v_iAdd, v_pSl, v_oNone, v_oSome, v_eApp, v_ePop, v_eAppLL, v_eCallO, v_callO, v_i1, v_pM1, v_pChain, v_pIndex, v_aLen, v_aApp, v_pFrz, v_pAO, v_gLst, v_frz0, v_frz0l, v_frzO, v_frz1, v_frzV, v_frzU, R.bind_ok, RE.bind_ok, RE.seq_ok, R.seq_ok, R.seqB_ok, RE.bindA_ok, RA.bind_ok, RA.bindE_ok, RV.bind_ok, RB.bind_ok, RB.bindE_ok, RB.seq_ok, RE.bindB_ok, upB_ok, up_ok, RS.then_nx, RS.then_rt, RS.then_rtO, RS.then_ct, RS.then_bk, o_eqI, o_neI, o_eqB, o_or1, o_or2, o_or3, o_and1, o_and2, o_and3, Int.cast_ofNat_Int, Int.reduceEq, Int.reduceLT, Int.reduceLE, Int.reduceAdd, Int.reduceSub, Int.reduceMul, Int.reduceNeg, o_add, o_sub, o_lt, o_le, o_gt, o_ge, o_int, o_abs, o_lenL, o_lenT, o_lenS, o_isN, o_isnN, n_non, n_int, n_str, n_bl, n_tup, n_lst, n_ins, o_mkT0, o_mkT1, o_mkT2, o_mkT3, o_mkL0, o_mkL1, o_mkL2, o_mkL3, o_maxD, o_minD, o_revT, o_revL, o_ixT0, o_ixT1, o_ixT2, o_isL, o_tupL, o_tupT, o_not, o_neg, ok_match, ok_match2, kt_int, kt_str, kt_bl, kt_tup, kt_lst, kt_non, kt_some, i_enumT, i_enumL, i_lst, i_tup, i_scr, List.getElem?_cons_zero, List.getElem?_cons_succ, List.set_cons_zero, List.set_cons_succ, List.length_cons, List.length_nil, List.length_set, List.map_cons, List.map_nil, List.cons_append, List.nil_append, List.append_nil, Option.bind_some, Option.map_some, Nat.reduceAdd, Nat.reduceLT, Nat.reduceSucc, Nat.zero_lt_succ, Nat.lt_add_left_iff_pos, eq_self, and_self, true_and, and_true, if_true_, if_false_, Int.toNat_natCast, ite_true, ite_false, Bool.not_true, Bool.not_false, Bool.false_eq_true, decide_true, decide_false, wpO_some, turn_nx, turn_ct, turn_bk, reduceCtorEq, Nat.succ_pos, Nat.succ_lt_succ_iff, ea, eb, N.ne ha ha]
      exact ⟨_, _, _, _, _, _, hob, hE, hH, by omega, rfl⟩
    by_cases c2 : (a, b) ∈ E'
    · simp -implicitDefEqProofs only [v_pVar', v_pVarQ', v_pVarR', k_v, k_vq, k_vr, k_oq, k_or, k_or2, k_vVal, k_vFr, k_par, k_set, k_aug, k_own, k_retF, k_ix, k_ix2, k_ixL, oR_s, k_app2, k_app, k_pop3, k_pop2, k_pop, k_apL2, k_apL1, k_apL, k_cal, k_calR, k_calO, k_ch1, k_ch2, k_lst, k_fldV, k_fldO, v_setF, v_pC, v_p1, v_p2, v_p3, v_aNil, v_aCons, v_pA, v_b1, v_asB, v_bAnd, v_bOr, v_bNot, v_pIf, v_pAndK, v_pOrK, v_liftE, v_e1, v_e2, v_bNil, v_bCons, v_eA, v_vNil, v_vVal, v_vFr, v_liftB, v_q1, v_qAnd, v_qOr, v_qNot, v_eIf, v_gVar, v_gTupD, v_gsNil, v_gsCons, v_pIxLL, v_gIx, v_gIx2, v_sNext, v_sNever, v_sRetN, v_sRet, v_sRetE, v_sRetF, v_sExpr, v_sExprE, v_sIf, v_sIfE, v_seq, v_asg, v_asgE, v_own, v_ownG, v_par, v_aug, v_putNil, v_putV, v_putF, v_iAdd, v_pSl, v_oNone, v_oSome, v_eApp, v_ePop, v_eAppLL, v_eCallO, v_callO, v_i1, v_pM1, v_pChain, v_pIndex, v_aLen, v_aApp, v_pFrz, v_pAO, v_gLst, v_frz0, v_frz0l, v_frzO, v_frz1, v_frzV, v_frzU, R.bind_ok, RE.bind_ok, RE.seq_ok, R.seq_ok, R.seqB_ok, RE.bindA_ok, RA.bind_ok, RA.bindE_ok, RV.bind_ok, RB.bind_ok, RB.bindE_ok, RB.seq_ok, RE.bindB_ok, upB_ok, up_ok, RS.then_nx, RS.then_rt, RS.then_rtO, RS.then_ct, RS.then_bk, o_eqI, o_neI, o_eqB, o_or1, o_or2, o_or3, o_and1, o_and2, o_and3, Int.cast_ofNat_Int, Int.reduceEq, Int.reduceLT, Int.reduceLE, Int.reduceAdd, Int.reduceSub, Int.reduceMul, Int.reduceNeg, o_add, o_sub, o_lt, o_le, o_gt, o_ge, o_int, o_abs, o_lenL, o_lenT, o_lenS, o_isN, o_isnN, n_non, n_int, n_str, n_bl, n_tup, n_lst, n_ins, o_mkT0, o_mkT1, o_mkT2, o_mkT3, o_mkL0, o_mkL1, o_mkL2, o_mkL3, o_maxD, o_minD, o_revT, o_revL, o_ixT0, o_ixT1, o_ixT2, o_isL, o_tupL, o_tupT, o_not, o_neg, ok_match, ok_match2, kt_int, kt_str, kt_bl, kt_tup, kt_lst, kt_non, kt_some, i_enumT, i_enumL, i_lst, i_tup, i_scr, List.getElem?_cons_zero, List.getElem?_cons_succ, List.set_cons_zero, List.set_cons_succ, List.length_cons, List.length_nil, List.length_set, List.map_cons, List.map_nil, List.cons_append, List.nil_append, List.append_nil, Option.bind_some, Option.map_some, Nat.reduceAdd, Nat.reduceLT, Nat.reduceSucc, Nat.zero_lt_succ, Nat.lt_add_left_iff_pos, eq_self, and_self, true_and, and_true, if_true_, if_false_, Int.toNat_natCast, ite_true, ite_false, Bool.not_true, Bool.not_false, Bool.false_eq_true, decide_true, decide_false, wpO_some, turn_nx, turn_ct, turn_bk, reduceCtorEq, Nat.succ_pos, Nat.succ_lt_succ_iff, ea, eb, N.ne ha hb, c1, N.ninTl hE.w ha hb, c2]
      exact ⟨_, _, _, _, _, _, hob, hE, hH, by omega, rfl⟩
    by_cases c3 : (b, a) ∈ E'
    · simp -implicitDefEqProofs only [v_pVar', v_pVarQ', v_pVarR', k_v, k_vq, k_vr, k_oq, k_or, k_or2, k_vVal, k_vFr, k_par, k_set, k_aug, k_own, k_retF, k_ix, k_ix2, k_ixL, oR_s, k_app2, k_app, k_pop3, k_pop2, k_pop, k_apL2, k_apL1, k_apL, k_cal, k_calR, k_calO, k_ch1, k_ch2, k_lst, k_fldV, k_fldO, v_setF, v_pC, v_p1, v_p2, v_p3, v_aNil, v_aCons, v_pA, v_b1, v_asB, v_bAnd, v_bOr, v_bNot, v_pIf, v_pAndK, v_pOrK, v_liftE, v_e1, v_e2, v_bNil, v_bCons, v_eA, v_vNil, v_vVal, v_vFr, v_liftB, v_q1, v_qAnd, v_qOr, v_qNot, v_eIf, v_gVar, v_gTupD, v_gsNil, v_gsCons, v_pIxLL, v_gIx, v_gIx2, v_sNext, v_sNever, v_sRetN, v_sRet, v_sRetE, v_sRetF, v_sExpr, v_sExprE, v_sIf, v_sIfE, v_seq, v_asg, v_asgE, v_own, v_ownG, v_par, v_aug, v_putNil, v_putV, v_putF, v_iAdd, v_pSl, v_oNone, v_oSome, v_eApp, v_ePop, v_eAppLL, v_eCallO, v_callO, v_i1, v_pM1, v_pChain, v_pIndex, v_aLen, v_aApp, v_pFrz, v_pAO, v_gLst, v_frz0, v_frz0l, v_frzO, v_frz1, v_frzV, v_frzU, R.bind_ok, RE.bind_ok, RE.seq_ok, R.seq_ok, R.seqB_ok, RE.bindA_ok, RA.bind_ok, RA.bindE_ok, RV.bind_ok, RB.bind_ok, RB.bindE_ok, RB.seq_ok, RE.bindB_ok, upB_ok, up_ok, RS.then_nx, RS.then_rt, RS.then_rtO, RS.then_ct, RS.then_bk, o_eqI, o_neI, o_eqB, o_or1, o_or2, o_or3, o_and1, o_and2, o_and3, Int.cast_ofNat_Int, Int.reduceEq, Int.reduceLT, Int.reduceLE, Int.reduceAdd, Int.reduceSub, Int.reduceMul, Int.reduceNeg, o_add, o_sub, o_lt, o_le, o_gt, o_ge, o_int, o_abs, o_lenL, o_lenT, o_lenS, o_isN, o_isnN, n_non, n_int, n_str, n_bl, n_tup, n_lst, n_ins, o_mkT0, o_mkT1, o_mkT2, o_mkT3, o_mkL0, o_mkL1, o_mkL2, o_mkL3, o_maxD, o_minD, o_revT, o_revL, o_ixT0, o_ixT1, o_ixT2, o_isL, o_tupL, o_tupT, o_not, o_neg, ok_match, ok_match2, kt_int, kt_str, kt_bl, kt_tup, kt_lst, kt_non, kt_some, i_enumT, i_enumL, i_lst, i_tup, i_scr, List.getElem?_cons_zero, List.getElem?_cons_succ, List.set_cons_zero, List.set_cons_succ, List.length_cons, List.length_nil, List.length_set, List.map_cons, List.map_nil, List.cons_append, List.nil_append, List.append_nil, Option.bind_some, Option.map_some, Nat.reduceAdd, Nat.reduceLT, Nat.reduceSucc, Nat.zero_lt_succ, Nat.lt_add_left_iff_pos, eq_self, and_self, true_and, and_true, if_true_, if_false_, Int.toNat_natCast, ite_true, ite_false, Bool.not_true, Bool.not_false, Bool.false_eq_true, decide_true, decide_false, wpO_some, turn_nx, turn_ct, turn_bk, reduceCtorEq, Nat.succ_pos, Nat.succ_lt_succ_iff, ea, eb, N.ne ha hb, c1, N.ninTl hE.w ha hb, c2, N.ninTl hE.w hb ha, c3]
      exact ⟨_, _, _, _, _, _, hob, hE, hH, by omega, rfl⟩
    · simp -implicitDefEqProofs only [v_pVar', v_pVarQ', v_pVarR', k_v, k_vq, k_vr, k_oq, k_or, k_or2, k_vVal, k_vFr, k_par, k_set, k_aug, k_own, k_retF, k_ix, k_ix2, k_ixL, oR_s, k_app2, k_app, k_pop3, k_pop2, k_pop, k_apL2, k_apL1, k_apL, k_cal, k_calR, k_calO, k_ch1, k_ch2, k_lst, k_fldV, k_fldO, v_setF, v_pC, v_p1, v_p2, v_p3, v_aNil, v_aCons, v_pA, v_b1, v_asB, v_bAnd, v_bOr, v_bNot, v_pIf, v_pAndK, v_pOrK, v_liftE, v_e1, v_e2, v_bNil, v_bCons, v_eA, v_vNil, v_vVal, v_vFr, v_liftB, v_q1, v_qAnd, v_qOr, v_qNot, v_eIf, v_gVar, v_gTupD, v_gsNil, v_gsCons, v_pIxLL, v_gIx, v_gIx2, v_sNext, v_sNever, v_sRetN, v_sRet, v_sRetE, v_sRetF, v_sExpr, v_sExprE, v_sIf, v_sIfE, v_seq, v_asg, v_asgE, v_own, v_ownG, v_par, v_aug, v_putNil, v_putV, v_putF, v_iAdd, v_pSl, v_oNone, v_oSome, v_eApp, v_ePop, v_eAppLL, v_eCallO, v_callO, v_i1, v_pM1, v_pChain, v_pIndex, v_aLen, v_aApp, v_pFrz, v_pAO, v_gLst, v_frz0, v_frz0l, v_frzO, v_frz1, v_frzV, v_frzU, R.bind_ok, RE.bind_ok, RE.seq_ok, R.seq_ok, R.seqB_ok, RE.bindA_ok, RA.bind_ok, RA.bindE_ok, RV.bind_ok, RB.bind_ok, RB.bindE_ok, RB.seq_ok, RE.bindB_ok, upB_ok, up_ok, RS.then_nx, RS.then_rt, RS.then_rtO, RS.then_ct, RS.then_bk, o_eqI, o_neI, o_eqB, o_or1, o_or2, o_or3, o_and1, o_and2, o_and3, Int.cast_ofNat_Int, Int.reduceEq, Int.reduceLT, Int.reduceLE, Int.reduceAdd, Int.reduceSub, Int.reduceMul, Int.reduceNeg, o_add, o_sub, o_lt, o_le, o_gt, o_ge, o_int, o_abs, o_lenL, o_lenT, o_lenS, o_isN, o_isnN, n_non, n_int, n_str, n_bl, n_tup, n_lst, n_ins, o_mkT0, o_mkT1, o_mkT2, o_mkT3, o_mkL0, o_mkL1, o_mkL2, o_mkL3, o_maxD, o_minD, o_revT, o_revL, o_ixT0, o_ixT1, o_ixT2, o_isL, o_tupL, o_tupT, o_not, o_neg, ok_match, ok_match2, kt_int, kt_str, kt_bl, kt_tup, kt_lst, kt_non, kt_some, i_enumT, i_enumL, i_lst, i_tup, i_scr, List.getElem?_cons_zero, List.getElem?_cons_succ, List.set_cons_zero, List.set_cons_succ, List.length_cons, List.length_nil, List.length_set, List.map_cons, List.map_nil, List.cons_append, List.nil_append, List.append_nil, Option.bind_some, Option.map_some, Nat.reduceAdd, Nat.reduceLT, Nat.reduceSucc, Nat.zero_lt_succ, Nat.lt_add_left_iff_pos, eq_self, and_self, true_and, and_true, if_true_, if_false_, Int.toNat_natCast, ite_true, ite_false, Bool.not_true, Bool.not_false, Bool.false_eq_true, decide_true, decide_false, wpO_some, turn_nx, turn_ct, turn_bk, reduceCtorEq, Nat.succ_pos, Nat.succ_lt_succ_iff, ea, eb, N.ne ha hb, c1, N.ninTl hE.w ha hb, c2, N.ninTl hE.w hb ha, c3, lz, tiA_push]
      refine ⟨_, _, _, _, _, _, hob, hE.push ha hb c1 c2 c3, hH.more, ?_, rfl⟩
      rw [List.length_append]; simp; omega
  rintro _ ⟨o, E', s4, s5, s8, s9, ho, hE, hH, hl, rfl⟩
  simp -implicitDefEqProofs only [v_pVar', v_pVarQ', v_pVarR', k_v, k_vq, k_vr, k_oq, k_or, k_or2, k_vVal, k_vFr, k_par, k_set, k_aug, k_own, k_retF, k_ix, k_ix2, k_ixL, oR_s, k_app2, k_app, k_pop3, k_pop2, k_pop, k_apL2, k_apL1, k_apL, k_cal, k_calR, k_calO, k_ch1, k_ch2, k_lst, k_fldV, k_fldO, v_setF, v_pC, v_p1, v_p2, v_p3, v_aNil, v_aCons, v_pA, v_b1, v_asB, v_bAnd, v_bOr, v_bNot, v_pIf, v_pAndK, v_pOrK, v_liftE, v_e1, v_e2, v_bNil, v_bCons, v_eA, v_vNil, v_vVal, v_vFr, v_liftB, v_q1, v_qAnd, v_qOr, v_qNot, v_eIf, v_gVar, v_gTupD, v_gsNil, v_gsCons, v_pIxLL, v_gIx, v_gIx2, v_sNext, v_sNever, v_sRetN, v_sRet, v_sRetE, v_sRetF, v_sExpr, v_sExprE, v_sIf, v_sIfE, v_seq, v_asg, v_asgE, v_own, v_ownG, v_par, v_aug, v_putNil, v_putV, v_putF, v_iAdd, v_pSl, v_oNone, v_oSome, v_eApp, v_ePop, v_eAppLL, v_eCallO, v_callO, v_i1, v_pM1, v_pChain, v_pIndex, v_aLen, v_aApp, v_pFrz, v_pAO, v_gLst, v_frz0, v_frz0l, v_frzO, v_frz1, v_frzV, v_frzU, R.bind_ok, RE.bind_ok, RE.seq_ok, R.seq_ok, R.seqB_ok, RE.bindA_ok, RA.bind_ok, RA.bindE_ok, RV.bind_ok, RB.bind_ok, RB.bindE_ok, RB.seq_ok, RE.bindB_ok, upB_ok, up_ok, RS.then_nx, RS.then_rt, RS.then_rtO, RS.then_ct, RS.then_bk, o_eqI, o_neI, o_eqB, o_or1, o_or2, o_or3, o_and1, o_and2, o_and3, Int.cast_ofNat_Int, Int.reduceEq, Int.reduceLT, Int.reduceLE, Int.reduceAdd, Int.reduceSub, Int.reduceMul, Int.reduceNeg, o_add, o_sub, o_lt, o_le, o_gt, o_ge, o_int, o_abs, o_lenL, o_lenT, o_lenS, o_isN, o_isnN, n_non, n_int, n_str, n_bl, n_tup, n_lst, n_ins, o_mkT0, o_mkT1, o_mkT2, o_mkT3, o_mkL0, o_mkL1, o_mkL2, o_mkL3, o_maxD, o_minD, o_revT, o_revL, o_ixT0, o_ixT1, o_ixT2, o_isL, o_tupL, o_tupT, o_not, o_neg, ok_match, ok_match2, kt_int, kt_str, kt_bl, kt_tup, kt_lst, kt_non, kt_some, i_enumT, i_enumL, i_lst, i_tup, i_scr, List.getElem?_cons_zero, List.getElem?_cons_succ, List.set_cons_zero, List.set_cons_succ, List.length_cons, List.length_nil, List.length_set, List.map_cons, List.map_nil, List.cons_append, List.nil_append, List.append_nil, Option.bind_some, Option.map_some, Nat.reduceAdd, Nat.reduceLT, Nat.reduceSucc, Nat.zero_lt_succ, Nat.lt_add_left_iff_pos, eq_self, and_self, true_and, and_true, if_true_, if_false_, Int.toNat_natCast, ite_true, ite_false, Bool.not_true, Bool.not_false, Bool.false_eq_true, decide_true, decide_false, wpO_some, turn_nx, turn_ct, turn_bk, reduceCtorEq, Nat.succ_pos, Nat.succ_lt_succ_iff]
  refine wp_range (fun j ρ => ∃ o F M s5 s7, PhOk o ∧ F.length + j = E'.length ∧ M.length = j ∧ Bd n (F ++ M) ∧ SameAdj E' (F ++ M) ∧ ρ = [.own 1 o, .val (twD n nm), .val (.int (more : Nat)), .own 0 (.lst (tiA nm F)), s4, s5, .own 0 (.lst (tiA nm M)), s7, s8, s9]) E'.length (v_range1 (by simp -implicitDefEqProofs only [v_pVar', v_pVarQ', v_pVarR', k_v, k_vq, k_vr, k_oq, k_or, k_or2, k_vVal, k_vFr, k_par, k_set, k_aug, k_own, k_retF, k_ix, k_ix2, k_ixL, oR_s, k_app2, k_app, k_pop3, k_pop2, k_pop, k_apL2, k_apL1, k_apL, k_cal, k_calR, k_calO, k_ch1, k_ch2, k_lst, k_fldV, k_fldO, v_setF, v_pC, v_p1, v_p2, v_p3, v_aNil, v_aCons, v_pA, v_b1, v_asB, v_bAnd, v_bOr, v_bNot, v_pIf, v_pAndK, v_pOrK, v_liftE, v_e1, v_e2, v_bNil, v_bCons, v_eA, v_vNil, v_vVal, v_vFr, v_liftB, v_q1, v_qAnd, v_qOr, v_qNot, v_eIf, v_gVar, v_gTupD, v_gsNil, v_gsCons, v_pIxLL, v_gIx, v_gIx2, v_sNext, v_sNever, v_sRetN, v_sRet, v_sRetE, v_sRetF, v_sExpr, v_sExprE, v_sIf, v_sIfE, v_seq, v_asg, v_asgE, v_own, v_ownG, v_par, v_aug, v_putNil, v_putV, v_putF, v_iAdd, v_pSl, v_oNone, v_oSome, v_eApp, v_ePop, v_eAppLL, v_eCallO, v_callO, v_i1, v_pM1, v_pChain, v_pIndex, v_aLen, v_aApp, v_pFrz, v_pAO, v_gLst, v_frz0, v_frz0l, v_frzO, v_frz1, v_frzV, v_frzU, R.bind_ok, RE.bind_ok, RE.seq_ok, R.seq_ok, R.seqB_ok, RE.bindA_ok, RA.bind_ok, RA.bindE_ok, RV.bind_ok, RB.bind_ok, RB.bindE_ok, RB.seq_ok, RE.bindB_ok, upB_ok, up_ok, RS.then_nx, RS.then_rt, RS.then_rtO, RS.then_ct, RS.then_bk, o_eqI, o_neI, o_eqB, o_or1, o_or2, o_or3, o_and1, o_and2, o_and3, Int.cast_ofNat_Int, Int.reduceEq, Int.reduceLT, Int.reduceLE, Int.reduceAdd, Int.reduceSub, Int.reduceMul, Int.reduceNeg, o_add, o_sub, o_lt, o_le, o_gt, o_ge, o_int, o_abs, o_lenL, o_lenT, o_lenS, o_isN, o_isnN, n_non, n_int, n_str, n_bl, n_tup, n_lst, n_ins, o_mkT0, o_mkT1, o_mkT2, o_mkT3, o_mkL0, o_mkL1, o_mkL2, o_mkL3, o_maxD, o_minD, o_revT, o_revL, o_ixT0, o_ixT1, o_ixT2, o_isL, o_tupL, o_tupT, o_not, o_neg, ok_match, ok_match2, kt_int, kt_str, kt_bl, kt_tup, kt_lst, kt_non, kt_some, i_enumT, i_enumL, i_lst, i_tup, i_scr, List.getElem?_cons_zero, List.getElem?_cons_succ, List.set_cons_zero, List.set_cons_succ, List.length_cons, List.length_nil, List.length_set, List.map_cons, List.map_nil, List.cons_append, List.nil_append, List.append_nil, Option.bind_some, Option.map_some, Nat.reduceAdd, Nat.reduceLT, Nat.reduceSucc, Nat.zero_lt_succ, Nat.lt_add_left_iff_pos, eq_self, and_self, true_and, and_true, if_true_, if_false_, Int.toNat_natCast, ite_true, ite_false, Bool.not_true, Bool.not_false, Bool.false_eq_true, decide_true, decide_false, wpO_some, turn_nx, turn_ct, turn_bk, reduceCtorEq, Nat.succ_pos, Nat.succ_lt_succ_iff, tiA_len]) (by omega)) ?_ ?_ ?_
  · exact ⟨o, E', [], _, _, ho, rfl, rfl, by rwa [List.append_nil], by rw [List.append_nil]; exact .refl _, rfl⟩
  · rintro j _ hj ⟨o, F, M, s5, s7, ho, hF, hM, hB, hS, rfl⟩
    obtain ⟨r, o1, e1, hr, ho1⟩ := drop1 ho (top := (F.length : Int)) (by omega) (by omega)
    obtain ⟨c, o2, e2, hc, ho2⟩ := drop1 ho1 (top := (2 : Int)) (by omega) (by omega)
    have hr' : r < F.length := by omega
    obtain ⟨p1, p2⟩ := two62' (r := r) (by omega)
    have g1 : (tiA nm F)[r]? = some (tieD nm F[r]) := by unfold tiA; rw [List.getElem?_map, List.getElem?_eq_getElem hr']; rfl
    have g2 : (tiA nm F).eraseIdx r = tiA nm (F.eraseIdx r) := by unfold tiA; exact map_erase _ _ _
    have lz : M.length < sizeLine := lt_size (by omega)
    have pm : (F ++ M).Perm (F.eraseIdx r ++ (M ++ [F[r]])) := by
      have h1 : F.Perm (F.eraseIdx r ++ [F[r]]) := ((erase_perm F r hr').symm).trans (List.perm_append_comm (l₁ := [F[r]]) (l₂ := F.eraseIdx r))
      have h2 := h1.append_right M
      refine h2.trans ?_
      rw [List.append_assoc]
      exact List.Perm.append_left _ List.perm_append_comm
    have hB1 := hB.perm pm
    have hS1 := hS.trans (.perm pm)
    have hfl : (F.eraseIdx r).length + 1 = F.length := by rw [List.length_eraseIdx, if_pos hr']; omega
    by_cases c0 : c = 0
    · subst c0
      rw [Int.natCast_zero] at e2
      simp -implicitDefEqProofs only [v_pVar', v_pVarQ', v_pVarR', k_v, k_vq, k_vr, k_oq, k_or, k_or2, k_vVal, k_vFr, k_par, k_set, k_aug, k_own, k_retF, k_ix, k_ix2, k_ixL, oR_s, k_app2, k_app, k_pop3, k_pop2, k_pop, k_apL2, k_apL1, k_apL, k_cal, k_calR, k_calO, k_ch1, k_ch2, k_lst, k_fldV, k_fldO, v_setF, v_pC, v_p1, v_p2, v_p3, v_aNil, v_aCons, v_pA, v_b1, v_asB, v_bAnd, v_bOr, v_bNot, v_pIf, v_pAndK, v_pOrK, v_liftE, v_e1, v_e2, v_bNil, v_bCons, v_eA, v_vNil, v_vVal, v_vFr, v_liftB, v_q1, v_qAnd, v_qOr, v_qNot, v_eIf, v_gVar, v_gTupD, v_gsNil, v_gsCons, v_pIxLL, v_gIx, v_gIx2, v_sNext, v_sNever, v_sRetN, v_sRet, v_sRetE, v_sRetF, v_sExpr, v_sExprE, v_sIf, v_sIfE, v_seq, v_asg, v_asgE, v_own, v_ownG, v_par, v_aug, v_putNil, v_putV, v_putF, v_iAdd, v_pSl, v_oNone, v_oSome, v_eApp, v_ePop, v_eAppLL, v_eCallO, v_callO, v_i1, v_pM1, v_pChain, v_pIndex, v_aLen, v_aApp, v_pFrz, v_pAO, v_gLst, v_frz0, v_frz0l, v_frzO, v_frz1, v_frzV, v_frzU, R.bind_ok, RE.bind_ok, RE.seq_ok, R.seq_ok, R.seqB_ok, RE.bindA_ok, RA.bind_ok, RA.bindE_ok, RV.bind_ok, RB.bind_ok, RB.bindE_ok, RB.seq_ok, RE.bindB_ok, upB_ok, up_ok, RS.then_nx, RS.then_rt, RS.then_rtO, RS.then_ct, RS.then_bk, o_eqI, o_neI, o_eqB, o_or1, o_or2, o_or3, o_and1, o_and2, o_and3, Int.cast_ofNat_Int, Int.reduceEq, Int.reduceLT, Int.reduceLE, Int.reduceAdd, Int.reduceSub, Int.reduceMul, Int.reduceNeg, o_add, o_sub, o_lt, o_le, o_gt, o_ge, o_int, o_abs, o_lenL, o_lenT, o_lenS, o_isN, o_isnN, n_non, n_int, n_str, n_bl, n_tup, n_lst, n_ins, o_mkT0, o_mkT1, o_mkT2, o_mkT3, o_mkL0, o_mkL1, o_mkL2, o_mkL3, o_maxD, o_minD, o_revT, o_revL, o_ixT0, o_ixT1, o_ixT2, o_isL, o_tupL, o_tupT, o_not, o_neg, ok_match, ok_match2, kt_int, kt_str, kt_bl, kt_tup, kt_lst, kt_non, kt_some, i_enumT, i_enumL, i_lst, i_tup, i_scr, List.getElem?_cons_zero, List.getElem?_cons_succ, List.set_cons_zero, List.set_cons_succ, List.length_cons, List.length_nil, List.length_set, List.map_cons, List.map_nil, List.cons_append, List.nil_append, List.append_nil, Option.bind_some, Option.map_some, Nat.reduceAdd, Nat.reduceLT, Nat.reduceSucc, Nat.zero_lt_succ, Nat.lt_add_left_iff_pos, eq_self, and_self, true_and, and_true, if_true_, if_false_, Int.toNat_natCast, ite_true, ite_false, Bool.not_true, Bool.not_false, Bool.false_eq_true, decide_true, decide_false, wpO_some, turn_nx, turn_ct, turn_bk, reduceCtorEq, Nat.succ_pos, Nat.succ_lt_succ_iff, tiA_len, e1, p1, p2, g1, g2, e2, lz, tiA_push']
      refine ⟨_, _, _, _, _, ho2, by omega, by rw [List.length_append]; simp; omega, hB1, hS1, rfl⟩
    · have c1 : ¬ (c : Int) = 0 := by omega
      simp -implicitDefEqProofs only [v_pVar', v_pVarQ', v_pVarR', k_v, k_vq, k_vr, k_oq, k_or, k_or2, k_vVal, k_vFr, k_par, k_set, k_aug, k_own, k_retF, k_ix, k_ix2, k_ixL, oR_s, k_app2, k_app, k_pop3, k_pop2, k_pop, k_apL2, k_apL1, k_apL, k_cal, k_calR, k_calO, k_ch1, k_ch2, k_lst, k_fldV, k_fldO, v_setF, v_pC, v_p1, v_p2, v_p3, v_aNil, v_aCons, v_pA, v_b1, v_asB, v_bAnd, v_bOr, v_bNot, v_pIf, v_pAndK, v_pOrK, v_liftE, v_e1, v_e2, v_bNil, v_bCons, v_eA, v_vNil, v_vVal, v_vFr, v_liftB, v_q1, v_qAnd, v_qOr, v_qNot, v_eIf, v_gVar, v_gTupD, v_gsNil, v_gsCons, v_pIxLL, v_gIx, v_gIx2, v_sNext, v_sNever, v_sRetN, v_sRet, v_sRetE, v_sRetF, v_sExpr, v_sExprE, v_sIf, v_sIfE, v_seq, v_asg, v_asgE, v_own, v_ownG, v_par, v_aug, v_putNil, v_putV, v_putF, v_iAdd, v_pSl, v_oNone, v_oSome, v_eApp, v_ePop, v_eAppLL, v_eCallO, v_callO, v_i1, v_pM1, v_pChain, v_pIndex, v_aLen, v_aApp, v_pFrz, v_pAO, v_gLst, v_frz0, v_frz0l, v_frzO, v_frz1, v_frzV, v_frzU, R.bind_ok, RE.bind_ok, RE.seq_ok, R.seq_ok, R.seqB_ok, RE.bindA_ok, RA.bind_ok, RA.bindE_ok, RV.bind_ok, RB.bind_ok, RB.bindE_ok, RB.seq_ok, RE.bindB_ok, upB_ok, up_ok, RS.then_nx, RS.then_rt, RS.then_rtO, RS.then_ct, RS.then_bk, o_eqI, o_neI, o_eqB, o_or1, o_or2, o_or3, o_and1, o_and2, o_and3, Int.cast_ofNat_Int, Int.reduceEq, Int.reduceLT, Int.reduceLE, Int.reduceAdd, Int.reduceSub, Int.reduceMul, Int.reduceNeg, o_add, o_sub, o_lt, o_le, o_gt, o_ge, o_int, o_abs, o_lenL, o_lenT, o_lenS, o_isN, o_isnN, n_non, n_int, n_str, n_bl, n_tup, n_lst, n_ins, o_mkT0, o_mkT1, o_mkT2, o_mkT3, o_mkL0, o_mkL1, o_mkL2, o_mkL3, o_maxD, o_minD, o_revT, o_revL, o_ixT0, o_ixT1, o_ixT2, o_isL, o_tupL, o_tupT, o_not, o_neg, ok_match, ok_match2, kt_int, kt_str, kt_bl, kt_tup, kt_lst, kt_non, kt_some, i_enumT, i_enumL, i_lst, i_tup, i_scr, List.getElem?_cons_zero, List.getElem?_cons_succ, List.set_cons_zero, List.set_cons_succ, List.length_cons, List.length_nil, List.length_set, List.map_cons, List.map_nil, List.cons_append, List.nil_append, List.append_nil, Option.bind_some, Option.map_some, Nat.reduceAdd, Nat.reduceLT, Nat.reduceSucc, Nat.zero_lt_succ, Nat.lt_add_left_iff_pos, eq_self, and_self, true_and, and_true, if_true_, if_false_, Int.toNat_natCast, ite_true, ite_false, Bool.not_true, Bool.not_false, Bool.false_eq_true, decide_true, decide_false, wpO_some, turn_nx, turn_ct, turn_bk, reduceCtorEq, Nat.succ_pos, Nat.succ_lt_succ_iff, tiA_len, e1, p1, p2, g1, g2, e2, c1, lz, tie_rev, tiA_push']
      refine ⟨_, _, _, _, _, ho2, by omega, by rw [List.length_append]; simp; omega, ?_, ?_, rfl⟩
      · rw [← List.append_assoc] at hB1 ⊢
        exact hB1.swap
      · rw [← List.append_assoc] at hS1 ⊢
        exact hS1.trans .swap
  · rintro _ ⟨o, F, M, s5, s7, ho, hF, hM, hB, hS, rfl⟩
    have : F = [] := List.length_eq_zero_iff.mp (by omega)
    subst this
    simp -implicitDefEqProofs only [v_pVar', v_pVarQ', v_pVarR', k_v, k_vq, k_vr, k_oq, k_or, k_or2, k_vVal, k_vFr, k_par, k_set, k_aug, k_own, k_retF, k_ix, k_ix2, k_ixL, oR_s, k_app2, k_app, k_pop3, k_pop2, k_pop, k_apL2, k_apL1, k_apL, k_cal, k_calR, k_calO, k_ch1, k_ch2, k_lst, k_fldV, k_fldO, v_setF, v_pC, v_p1, v_p2, v_p3, v_aNil, v_aCons, v_pA, v_b1, v_asB, v_bAnd, v_bOr, v_bNot, v_pIf, v_pAndK, v_pOrK, v_liftE, v_e1, v_e2, v_bNil, v_bCons, v_eA, v_vNil, v_vVal, v_vFr, v_liftB, v_q1, v_qAnd, v_qOr, v_qNot, v_eIf, v_gVar, v_gTupD, v_gsNil, v_gsCons, v_pIxLL, v_gIx, v_gIx2, v_sNext, v_sNever, v_sRetN, v_sRet, v_sRetE, v_sRetF, v_sExpr, v_sExprE, v_sIf, v_sIfE, v_seq, v_asg, v_asgE, v_own, v_ownG, v_par, v_aug, v_putNil, v_putV, v_putF, v_iAdd, v_pSl, v_oNone, v_oSome, v_eApp, v_ePop, v_eAppLL, v_eCallO, v_callO, v_i1, v_pM1, v_pChain, v_pIndex, v_aLen, v_aApp, v_pFrz, v_pAO, v_gLst, v_frz0, v_frz0l, v_frzO, v_frz1, v_frzV, v_frzU, R.bind_ok, RE.bind_ok, RE.seq_ok, R.seq_ok, R.seqB_ok, RE.bindA_ok, RA.bind_ok, RA.bindE_ok, RV.bind_ok, RB.bind_ok, RB.bindE_ok, RB.seq_ok, RE.bindB_ok, upB_ok, up_ok, RS.then_nx, RS.then_rt, RS.then_rtO, RS.then_ct, RS.then_bk, o_eqI, o_neI, o_eqB, o_or1, o_or2, o_or3, o_and1, o_and2, o_and3, Int.cast_ofNat_Int, Int.reduceEq, Int.reduceLT, Int.reduceLE, Int.reduceAdd, Int.reduceSub, Int.reduceMul, Int.reduceNeg, o_add, o_sub, o_lt, o_le, o_gt, o_ge, o_int, o_abs, o_lenL, o_lenT, o_lenS, o_isN, o_isnN, n_non, n_int, n_str, n_bl, n_tup, n_lst, n_ins, o_mkT0, o_mkT1, o_mkT2, o_mkT3, o_mkL0, o_mkL1, o_mkL2, o_mkL3, o_maxD, o_minD, o_revT, o_revL, o_ixT0, o_ixT1, o_ixT2, o_isL, o_tupL, o_tupT, o_not, o_neg, ok_match, ok_match2, kt_int, kt_str, kt_bl, kt_tup, kt_lst, kt_non, kt_some, i_enumT, i_enumL, i_lst, i_tup, i_scr, List.getElem?_cons_zero, List.getElem?_cons_succ, List.set_cons_zero, List.set_cons_succ, List.length_cons, List.length_nil, List.length_set, List.map_cons, List.map_nil, List.cons_append, List.nil_append, List.append_nil, Option.bind_some, Option.map_some, Nat.reduceAdd, Nat.reduceLT, Nat.reduceSucc, Nat.zero_lt_succ, Nat.lt_add_left_iff_pos, eq_self, and_self, true_and, and_true, if_true_, if_false_, Int.toNat_natCast, ite_true, ite_false, Bool.not_true, Bool.not_false, Bool.false_eq_true, decide_true, decide_false, wpO_some, turn_nx, turn_ct, turn_bk, reduceCtorEq, Nat.succ_pos, Nat.succ_lt_succ_iff]
    exact ⟨M, o, _, rfl, ho, hB, hH.same hS, by omega⟩
end
end MA

set_option Elab.async false
set_option linter.all false
set_option maxRecDepth 100000
set_option maxHeartbeats 4000000
/-! The law's own distances: through all towns in turn. -/
namespace MA
open PySem PySem.Spec PyProof.Rows L2 He DL DM Gr
def matL (n : Nat) (f : Nat → Nat → Nat) : List (List D) := arr n fun i => arr n fun j => .int (f i j : Nat)
theorem atI_arr {α : Type} {n i : Nat} {g : Nat → α} (h : i < n) : L2.atI (arr n g) (i : Int) = some (g i) := by
  unfold L2.atI
  rw [arr_len, ixN_nat h]
  exact arr_get h
theorem mat_set (n : Nat) (f : Nat → Nat → Nat) (i j x : Nat) : arr n (upd1 (fun i => arr n fun j => D.int (f i j : Nat)) i (arr n (upd1 (fun j => D.int (f i j : Nat)) j (.int (x : Nat))))) = matL n (upd2 f i j x) := by
  unfold matL
  refine arr_congr fun a ha => ?_
  unfold upd1 upd2
  by_cases h : a = i
  · subst h
    rw [if_pos rfl]
    refine arr_congr fun b hb => ?_
    by_cases h2 : b = j
    · subst h2; simp
    · simp [h2]
  · rw [if_neg h]
    refine arr_congr fun b hb => ?_
    simp [h]
theorem min3_eq (a b c : Nat) : (if (99 : Int) < (if ((b : Int) + c) < a then (b : Int) + c else a) then (99 : Int) else (if ((b : Int) + c) < a then (b : Int) + c else a)) = ((min (min a (b + c)) 99 : Nat) : Int) := by
  split <;> split <;> omega
theorem lr_ok {n : Nat} (h : n ≤ 1000) : lrD (.int (n : Nat)) = .ok (.lst (arr n fun k : Nat => .int k)) := by
  unfold lrD arr
  rw [← rangeD_map]
  exact if_pos (by omega)
theorem spans_c {n : Nat} {nm : Nat → Str} {L : Es} (N : Nms n nm) (T : Bd n L) : callV F__law_spans [twD n nm, tiD nm L] = .ok (.lst (distA n L)) := by
  refine cv_rt ?_
  have hlo := N.lo
  have hhi := N.hi
  show Wp (m__law_spans [.val (twD n nm), .val (tiD nm L), .un, .un, .un, .un, .un, .un, .un]) _
  unfold m__law_spans
  simp -implicitDefEqProofs only [v_pVar', v_pVarQ', v_pVarR', k_v, k_vq, k_vr, k_oq, k_or, k_or2, k_vVal, k_vFr, k_par, k_set, k_aug, k_own, k_retF, k_ix, k_ix2, k_ixL, oR_s, k_app2, k_app, k_pop3, k_pop2, k_pop, k_apL2, k_apL1, k_apL, k_cal, k_calR, k_calO, k_ch1, k_ch2, k_lst, k_fldV, k_fldO, v_setF, v_pC, v_p1, v_p2, v_p3, v_aNil, v_aCons, v_pA, v_b1, v_asB, v_bAnd, v_bOr, v_bNot, v_pIf, v_pAndK, v_pOrK, v_liftE, v_e1, v_e2, v_bNil, v_bCons, v_eA, v_vNil, v_vVal, v_vFr, v_liftB, v_q1, v_qAnd, v_qOr, v_qNot, v_eIf, v_gVar, v_gTupD, v_gsNil, v_gsCons, v_pIxLL, v_gIx, v_gIx2, v_sNext, v_sNever, v_sRetN, v_sRet, v_sRetE, v_sRetF, v_sExpr, v_sExprE, v_sIf, v_sIfE, v_seq, v_asg, v_asgE, v_own, v_ownG, v_par, v_aug, v_putNil, v_putV, v_putF, v_iAdd, v_pSl, v_oNone, v_oSome, v_eApp, v_ePop, v_eAppLL, v_eCallO, v_callO, v_i1, v_pM1, v_pChain, v_pIndex, v_aLen, v_aApp, v_pFrz, v_pAO, v_gLst, v_frz0, v_frz0l, v_frzO, v_frz1, v_frzV, v_frzU, R.bind_ok, RE.bind_ok, RE.seq_ok, R.seq_ok, R.seqB_ok, RE.bindA_ok, RA.bind_ok, RA.bindE_ok, RV.bind_ok, RB.bind_ok, RB.bindE_ok, RB.seq_ok, RE.bindB_ok, upB_ok, up_ok, RS.then_nx, RS.then_rt, RS.then_rtO, RS.then_ct, RS.then_bk, o_eqI, o_neI, o_eqB, o_or1, o_or2, o_or3, o_and1, o_and2, o_and3, Int.cast_ofNat_Int, Int.reduceEq, Int.reduceLT, Int.reduceLE, Int.reduceAdd, Int.reduceSub, Int.reduceMul, Int.reduceNeg, o_add, o_sub, o_lt, o_le, o_gt, o_ge, o_int, o_abs, o_lenL, o_lenT, o_lenS, o_isN, o_isnN, n_non, n_int, n_str, n_bl, n_tup, n_lst, n_ins, o_mkT0, o_mkT1, o_mkT2, o_mkT3, o_mkL0, o_mkL1, o_mkL2, o_mkL3, o_maxD, o_minD, o_revT, o_revL, o_ixT0, o_ixT1, o_ixT2, o_isL, o_tupL, o_tupT, o_not, o_neg, ok_match, ok_match2, kt_int, kt_str, kt_bl, kt_tup, kt_lst, kt_non, kt_some, i_enumT, i_enumL, i_lst, i_tup, i_scr, List.getElem?_cons_zero, List.getElem?_cons_succ, List.set_cons_zero, List.set_cons_succ, List.length_cons, List.length_nil, List.length_set, List.map_cons, List.map_nil, List.cons_append, List.nil_append, List.append_nil, Option.bind_some, Option.map_some, Nat.reduceAdd, Nat.reduceLT, Nat.reduceSucc, Nat.zero_lt_succ, Nat.lt_add_left_iff_pos, eq_self, and_self, true_and, and_true, if_true_, if_false_, Int.toNat_natCast, ite_true, ite_false, Bool.not_true, Bool.not_false, Bool.false_eq_true, decide_true, decide_false, wpO_some, turn_nx, turn_ct, turn_bk, reduceCtorEq, Nat.succ_pos, Nat.succ_lt_succ_iff, len_tw, lr_ok (show n ≤ 1000 by omega)]
  rw [gLl_map (fun i : Nat => .int i) (fun i => arr n fun j => .int (if i = j then 0 else 99)) (List.range n) rfl]
  rotate_left
  · intro i hi
    refine ⟨_, rfl, rfl, ?_⟩
    rw [pLc_map (fun i : Nat => .int i) (fun j => .int (if i = j then 0 else 99)) (List.range n) rfl]
    · rfl
    · intro j hj
      refine ⟨_, rfl, rfl, ?_⟩
      by_cases h : i = j
      · subst h; simp -implicitDefEqProofs only [v_pVar', v_pVarQ', v_pVarR', k_v, k_vq, k_vr, k_oq, k_or, k_or2, k_vVal, k_vFr, k_par, k_set, k_aug, k_own, k_retF, k_ix, k_ix2, k_ixL, oR_s, k_app2, k_app, k_pop3, k_pop2, k_pop, k_apL2, k_apL1, k_apL, k_cal, k_calR, k_calO, k_ch1, k_ch2, k_lst, k_fldV, k_fldO, v_setF, v_pC, v_p1, v_p2, v_p3, v_aNil, v_aCons, v_pA, v_b1, v_asB, v_bAnd, v_bOr, v_bNot, v_pIf, v_pAndK, v_pOrK, v_liftE, v_e1, v_e2, v_bNil, v_bCons, v_eA, v_vNil, v_vVal, v_vFr, v_liftB, v_q1, v_qAnd, v_qOr, v_qNot, v_eIf, v_gVar, v_gTupD, v_gsNil, v_gsCons, v_pIxLL, v_gIx, v_gIx2, v_sNext, v_sNever, v_sRetN, v_sRet, v_sRetE, v_sRetF, v_sExpr, v_sExprE, v_sIf, v_sIfE, v_seq, v_asg, v_asgE, v_own, v_ownG, v_par, v_aug, v_putNil, v_putV, v_putF, v_iAdd, v_pSl, v_oNone, v_oSome, v_eApp, v_ePop, v_eAppLL, v_eCallO, v_callO, v_i1, v_pM1, v_pChain, v_pIndex, v_aLen, v_aApp, v_pFrz, v_pAO, v_gLst, v_frz0, v_frz0l, v_frzO, v_frz1, v_frzV, v_frzU, R.bind_ok, RE.bind_ok, RE.seq_ok, R.seq_ok, R.seqB_ok, RE.bindA_ok, RA.bind_ok, RA.bindE_ok, RV.bind_ok, RB.bind_ok, RB.bindE_ok, RB.seq_ok, RE.bindB_ok, upB_ok, up_ok, RS.then_nx, RS.then_rt, RS.then_rtO, RS.then_ct, RS.then_bk, o_eqI, o_neI, o_eqB, o_or1, o_or2, o_or3, o_and1, o_and2, o_and3, Int.cast_ofNat_Int, Int.reduceEq, Int.reduceLT, Int.reduceLE, Int.reduceAdd, Int.reduceSub, Int.reduceMul, Int.reduceNeg, o_add, o_sub, o_lt, o_le, o_gt, o_ge, o_int, o_abs, o_lenL, o_lenT, o_lenS, o_isN, o_isnN, n_non, n_int, n_str, n_bl, n_tup, n_lst, n_ins, o_mkT0, o_mkT1, o_mkT2, o_mkT3, o_mkL0, o_mkL1, o_mkL2, o_mkL3, o_maxD, o_minD, o_revT, o_revL, o_ixT0, o_ixT1, o_ixT2, o_isL, o_tupL, o_tupT, o_not, o_neg, ok_match, ok_match2, kt_int, kt_str, kt_bl, kt_tup, kt_lst, kt_non, kt_some, i_enumT, i_enumL, i_lst, i_tup, i_scr, List.getElem?_cons_zero, List.getElem?_cons_succ, List.set_cons_zero, List.set_cons_succ, List.length_cons, List.length_nil, List.length_set, List.map_cons, List.map_nil, List.cons_append, List.nil_append, List.append_nil, Option.bind_some, Option.map_some, Nat.reduceAdd, Nat.reduceLT, Nat.reduceSucc, Nat.zero_lt_succ, Nat.lt_add_left_iff_pos, eq_self, and_self, true_and, and_true, if_true_, if_false_, Int.toNat_natCast, ite_true, ite_false, Bool.not_true, Bool.not_false, Bool.false_eq_true, decide_true, decide_false, wpO_some, turn_nx, turn_ct, turn_bk, reduceCtorEq, Nat.succ_pos, Nat.succ_lt_succ_iff, wipeS]
      · have h' : ¬ (i : Int) = j := by omega
        simp -implicitDefEqProofs only [v_pVar', v_pVarQ', v_pVarR', k_v, k_vq, k_vr, k_oq, k_or, k_or2, k_vVal, k_vFr, k_par, k_set, k_aug, k_own, k_retF, k_ix, k_ix2, k_ixL, oR_s, k_app2, k_app, k_pop3, k_pop2, k_pop, k_apL2, k_apL1, k_apL, k_cal, k_calR, k_calO, k_ch1, k_ch2, k_lst, k_fldV, k_fldO, v_setF, v_pC, v_p1, v_p2, v_p3, v_aNil, v_aCons, v_pA, v_b1, v_asB, v_bAnd, v_bOr, v_bNot, v_pIf, v_pAndK, v_pOrK, v_liftE, v_e1, v_e2, v_bNil, v_bCons, v_eA, v_vNil, v_vVal, v_vFr, v_liftB, v_q1, v_qAnd, v_qOr, v_qNot, v_eIf, v_gVar, v_gTupD, v_gsNil, v_gsCons, v_pIxLL, v_gIx, v_gIx2, v_sNext, v_sNever, v_sRetN, v_sRet, v_sRetE, v_sRetF, v_sExpr, v_sExprE, v_sIf, v_sIfE, v_seq, v_asg, v_asgE, v_own, v_ownG, v_par, v_aug, v_putNil, v_putV, v_putF, v_iAdd, v_pSl, v_oNone, v_oSome, v_eApp, v_ePop, v_eAppLL, v_eCallO, v_callO, v_i1, v_pM1, v_pChain, v_pIndex, v_aLen, v_aApp, v_pFrz, v_pAO, v_gLst, v_frz0, v_frz0l, v_frzO, v_frz1, v_frzV, v_frzU, R.bind_ok, RE.bind_ok, RE.seq_ok, R.seq_ok, R.seqB_ok, RE.bindA_ok, RA.bind_ok, RA.bindE_ok, RV.bind_ok, RB.bind_ok, RB.bindE_ok, RB.seq_ok, RE.bindB_ok, upB_ok, up_ok, RS.then_nx, RS.then_rt, RS.then_rtO, RS.then_ct, RS.then_bk, o_eqI, o_neI, o_eqB, o_or1, o_or2, o_or3, o_and1, o_and2, o_and3, Int.cast_ofNat_Int, Int.reduceEq, Int.reduceLT, Int.reduceLE, Int.reduceAdd, Int.reduceSub, Int.reduceMul, Int.reduceNeg, o_add, o_sub, o_lt, o_le, o_gt, o_ge, o_int, o_abs, o_lenL, o_lenT, o_lenS, o_isN, o_isnN, n_non, n_int, n_str, n_bl, n_tup, n_lst, n_ins, o_mkT0, o_mkT1, o_mkT2, o_mkT3, o_mkL0, o_mkL1, o_mkL2, o_mkL3, o_maxD, o_minD, o_revT, o_revL, o_ixT0, o_ixT1, o_ixT2, o_isL, o_tupL, o_tupT, o_not, o_neg, ok_match, ok_match2, kt_int, kt_str, kt_bl, kt_tup, kt_lst, kt_non, kt_some, i_enumT, i_enumL, i_lst, i_tup, i_scr, List.getElem?_cons_zero, List.getElem?_cons_succ, List.set_cons_zero, List.set_cons_succ, List.length_cons, List.length_nil, List.length_set, List.map_cons, List.map_nil, List.cons_append, List.nil_append, List.append_nil, Option.bind_some, Option.map_some, Nat.reduceAdd, Nat.reduceLT, Nat.reduceSucc, Nat.zero_lt_succ, Nat.lt_add_left_iff_pos, eq_self, and_self, true_and, and_true, if_true_, if_false_, Int.toNat_natCast, ite_true, ite_false, Bool.not_true, Bool.not_false, Bool.false_eq_true, decide_true, decide_false, wpO_some, turn_nx, turn_ct, turn_bk, reduceCtorEq, Nat.succ_pos, Nat.succ_lt_succ_iff, wipeS, h', h]
    · rw [List.length_range]; omega
  · rw [List.length_range]; omega
  have e0 : List.map (fun i => arr n fun j => D.int (if i = j then 0 else 99)) (List.range n) = matL n (fun i j => if i = j then 0 else 99) := by
    unfold matL
    refine arr_congr fun i hi => arr_congr fun j hj => ?_
    by_cases h : i = j
    · simp [h]
    · simp [h]
  simp -implicitDefEqProofs only [v_pVar', v_pVarQ', v_pVarR', k_v, k_vq, k_vr, k_oq, k_or, k_or2, k_vVal, k_vFr, k_par, k_set, k_aug, k_own, k_retF, k_ix, k_ix2, k_ixL, oR_s, k_app2, k_app, k_pop3, k_pop2, k_pop, k_apL2, k_apL1, k_apL, k_cal, k_calR, k_calO, k_ch1, k_ch2, k_lst, k_fldV, k_fldO, v_setF, v_pC, v_p1, v_p2, v_p3, v_aNil, v_aCons, v_pA, v_b1, v_asB, v_bAnd, v_bOr, v_bNot, v_pIf, v_pAndK, v_pOrK, v_liftE, v_e1, v_e2, v_bNil, v_bCons, v_eA, v_vNil, v_vVal, v_vFr, v_liftB, v_q1, v_qAnd, v_qOr, v_qNot, v_eIf, v_gVar, v_gTupD, v_gsNil, v_gsCons, v_pIxLL, v_gIx, v_gIx2, v_sNext, v_sNever, v_sRetN, v_sRet, v_sRetE, v_sRetF, v_sExpr, v_sExprE, v_sIf, v_sIfE, v_seq, v_asg, v_asgE, v_own, v_ownG, v_par, v_aug, v_putNil, v_putV, v_putF, v_iAdd, v_pSl, v_oNone, v_oSome, v_eApp, v_ePop, v_eAppLL, v_eCallO, v_callO, v_i1, v_pM1, v_pChain, v_pIndex, v_aLen, v_aApp, v_pFrz, v_pAO, v_gLst, v_frz0, v_frz0l, v_frzO, v_frz1, v_frzV, v_frzU, R.bind_ok, RE.bind_ok, RE.seq_ok, R.seq_ok, R.seqB_ok, RE.bindA_ok, RA.bind_ok, RA.bindE_ok, RV.bind_ok, RB.bind_ok, RB.bindE_ok, RB.seq_ok, RE.bindB_ok, upB_ok, up_ok, RS.then_nx, RS.then_rt, RS.then_rtO, RS.then_ct, RS.then_bk, o_eqI, o_neI, o_eqB, o_or1, o_or2, o_or3, o_and1, o_and2, o_and3, Int.cast_ofNat_Int, Int.reduceEq, Int.reduceLT, Int.reduceLE, Int.reduceAdd, Int.reduceSub, Int.reduceMul, Int.reduceNeg, o_add, o_sub, o_lt, o_le, o_gt, o_ge, o_int, o_abs, o_lenL, o_lenT, o_lenS, o_isN, o_isnN, n_non, n_int, n_str, n_bl, n_tup, n_lst, n_ins, o_mkT0, o_mkT1, o_mkT2, o_mkT3, o_mkL0, o_mkL1, o_mkL2, o_mkL3, o_maxD, o_minD, o_revT, o_revL, o_ixT0, o_ixT1, o_ixT2, o_isL, o_tupL, o_tupT, o_not, o_neg, ok_match, ok_match2, kt_int, kt_str, kt_bl, kt_tup, kt_lst, kt_non, kt_some, i_enumT, i_enumL, i_lst, i_tup, i_scr, List.getElem?_cons_zero, List.getElem?_cons_succ, List.set_cons_zero, List.set_cons_succ, List.length_cons, List.length_nil, List.length_set, List.map_cons, List.map_nil, List.cons_append, List.nil_append, List.append_nil, Option.bind_some, Option.map_some, Nat.reduceAdd, Nat.reduceLT, Nat.reduceSucc, Nat.zero_lt_succ, Nat.lt_add_left_iff_pos, eq_self, and_self, true_and, and_true, if_true_, if_false_, Int.toNat_natCast, ite_true, ite_false, Bool.not_true, Bool.not_false, Bool.false_eq_true, decide_true, decide_false, wpO_some, turn_nx, turn_ct, turn_bk, reduceCtorEq, Nat.succ_pos, Nat.succ_lt_succ_iff, e0]
  refine wp_pre (tieD nm) (fun pre ρ => ∃ f s4 s5 s6 s7 s8, (∀ i, f i i = 0) ∧ (∀ i j, i ≠ j → f i j = 1 ∧ Adj pre i j ∨ f i j = 99 ∧ ¬ Adj pre i j) ∧ ρ = [.val (twD n nm), .val (tiD nm L), .val (.lst (arr n fun k : Nat => .int k)), .own 0 (.ll (matL n f)), s4, s5, s6, s7, s8]) L rfl ?_ ?_ ?_
  · refine ⟨fun i j => if i = j then 0 else 99, _, _, _, _, _, fun i => if_pos rfl, fun i j h => .inr ⟨if_neg h, fun z => by rcases z with z | z <;> cases z⟩, rfl⟩
  · rintro pre ⟨a, b⟩ post _ rfl ⟨f, s4, s5, s6, s7, s8, f0, f1, rfl⟩
    obtain ⟨h1, h2⟩ := T.w (a, b) (by simp)
    have hne : a ≠ b := T.irr (a, b) (by simp)
    dsimp only at h1 h2
    have g1 := fun (f : Nat → Nat → Nat) => arr_get (g := fun i => arr n fun j => D.int (f i j : Nat)) h1
    have g2 := fun (f : Nat → Nat → Nat) => arr_get (g := fun i => arr n fun j => D.int (f i j : Nat)) h2
    have hm : matL n f = arr n fun i => arr n fun j => .int (f i j : Nat) := rfl
    have hm2 : matL n (upd2 f a b 1) = arr n fun i => arr n fun j => .int (upd2 f a b 1 i j : Nat) := rfl
    have m1 := mat_set n f a b 1
    have m2 := mat_set n (upd2 f a b 1) b a 1
    rw [Int.natCast_one] at m1 m2
    unfold tieD
    simp -implicitDefEqProofs only [v_pVar', v_pVarQ', v_pVarR', k_v, k_vq, k_vr, k_oq, k_or, k_or2, k_vVal, k_vFr, k_par, k_set, k_aug, k_own, k_retF, k_ix, k_ix2, k_ixL, oR_s, k_app2, k_app, k_pop3, k_pop2, k_pop, k_apL2, k_apL1, k_apL, k_cal, k_calR, k_calO, k_ch1, k_ch2, k_lst, k_fldV, k_fldO, v_setF, v_pC, v_p1, v_p2, v_p3, v_aNil, v_aCons, v_pA, v_b1, v_asB, v_bAnd, v_bOr, v_bNot, v_pIf, v_pAndK, v_pOrK, v_liftE, v_e1, v_e2, v_bNil, v_bCons, v_eA, v_vNil, v_vVal, v_vFr, v_liftB, v_q1, v_qAnd, v_qOr, v_qNot, v_eIf, v_gVar, v_gTupD, v_gsNil, v_gsCons, v_pIxLL, v_gIx, v_gIx2, v_sNext, v_sNever, v_sRetN, v_sRet, v_sRetE, v_sRetF, v_sExpr, v_sExprE, v_sIf, v_sIfE, v_seq, v_asg, v_asgE, v_own, v_ownG, v_par, v_aug, v_putNil, v_putV, v_putF, v_iAdd, v_pSl, v_oNone, v_oSome, v_eApp, v_ePop, v_eAppLL, v_eCallO, v_callO, v_i1, v_pM1, v_pChain, v_pIndex, v_aLen, v_aApp, v_pFrz, v_pAO, v_gLst, v_frz0, v_frz0l, v_frzO, v_frz1, v_frzV, v_frzU, R.bind_ok, RE.bind_ok, RE.seq_ok, R.seq_ok, R.seqB_ok, RE.bindA_ok, RA.bind_ok, RA.bindE_ok, RV.bind_ok, RB.bind_ok, RB.bindE_ok, RB.seq_ok, RE.bindB_ok, upB_ok, up_ok, RS.then_nx, RS.then_rt, RS.then_rtO, RS.then_ct, RS.then_bk, o_eqI, o_neI, o_eqB, o_or1, o_or2, o_or3, o_and1, o_and2, o_and3, Int.cast_ofNat_Int, Int.reduceEq, Int.reduceLT, Int.reduceLE, Int.reduceAdd, Int.reduceSub, Int.reduceMul, Int.reduceNeg, o_add, o_sub, o_lt, o_le, o_gt, o_ge, o_int, o_abs, o_lenL, o_lenT, o_lenS, o_isN, o_isnN, n_non, n_int, n_str, n_bl, n_tup, n_lst, n_ins, o_mkT0, o_mkT1, o_mkT2, o_mkT3, o_mkL0, o_mkL1, o_mkL2, o_mkL3, o_maxD, o_minD, o_revT, o_revL, o_ixT0, o_ixT1, o_ixT2, o_isL, o_tupL, o_tupT, o_not, o_neg, ok_match, ok_match2, kt_int, kt_str, kt_bl, kt_tup, kt_lst, kt_non, kt_some, i_enumT, i_enumL, i_lst, i_tup, i_scr, List.getElem?_cons_zero, List.getElem?_cons_succ, List.set_cons_zero, List.set_cons_succ, List.length_cons, List.length_nil, List.length_set, List.map_cons, List.map_nil, List.cons_append, List.nil_append, List.append_nil, Option.bind_some, Option.map_some, Nat.reduceAdd, Nat.reduceLT, Nat.reduceSucc, Nat.zero_lt_succ, Nat.lt_add_left_iff_pos, eq_self, and_self, true_and, and_true, if_true_, if_false_, Int.toNat_natCast, ite_true, ite_false, Bool.not_true, Bool.not_false, Bool.false_eq_true, decide_true, decide_false, wpO_some, turn_nx, turn_ct, turn_bk, reduceCtorEq, Nat.succ_pos, Nat.succ_lt_succ_iff, N.kind, N.ix h1, N.ix h2, hm, arr_len, ixN_nat h1, ixN_nat h2, g1, g2, arr_set, m1, hm2, m2]
    refine ⟨_, _, _, _, _, _, ?_, ?_, rfl⟩
    · intro i
      unfold upd2
      rw [if_neg (fun z => hne (z.2.symm.trans z.1)), if_neg (fun z => hne (z.1.symm.trans z.2))]
      exact f0 i
    · intro i j hij
      have ea : Adj (pre ++ [(a, b)]) i j ↔ Adj pre i j ∨ (i = a ∧ j = b) ∨ (j = a ∧ i = b) := by
        unfold Adj
        simp only [List.mem_append, List.mem_singleton, Prod.mk.injEq]
        constructor
        · rintro ((h | h) | (h | h))
          · exact .inl (.inl h)
          · exact .inr (.inl h)
          · exact .inl (.inr h)
          · exact .inr (.inr h)
        · rintro ((h | h) | h | h)
          · exact .inl (.inl h)
          · exact .inr (.inl h)
          · exact .inl (.inr h)
          · exact .inr (.inr h)
      rw [ea]
      unfold upd2
      by_cases c1 : i = b ∧ j = a
      · rw [if_pos c1]; exact .inl ⟨rfl, .inr (.inr ⟨c1.2, c1.1⟩)⟩
      · rw [if_neg c1]
        by_cases c2 : i = a ∧ j = b
        · rw [if_pos c2]; exact .inl ⟨rfl, .inr (.inl c2)⟩
        · rw [if_neg c2]
          rcases f1 i j hij with ⟨e, h⟩ | ⟨e, h⟩
          · exact .inl ⟨e, .inl h⟩
          · refine .inr ⟨e, ?_⟩
            rintro (h' | h' | h')
            · exact h h'
            · exact c2 h'
            · exact c1 ⟨h'.2, h'.1⟩
  rintro _ ⟨f, s4, s5, s6, s7, s8, f0, f1, rfl⟩
  obtain ⟨low, up⟩ := span_start f0 f1
  simp -implicitDefEqProofs only [v_pVar', v_pVarQ', v_pVarR', k_v, k_vq, k_vr, k_oq, k_or, k_or2, k_vVal, k_vFr, k_par, k_set, k_aug, k_own, k_retF, k_ix, k_ix2, k_ixL, oR_s, k_app2, k_app, k_pop3, k_pop2, k_pop, k_apL2, k_apL1, k_apL, k_cal, k_calR, k_calO, k_ch1, k_ch2, k_lst, k_fldV, k_fldO, v_setF, v_pC, v_p1, v_p2, v_p3, v_aNil, v_aCons, v_pA, v_b1, v_asB, v_bAnd, v_bOr, v_bNot, v_pIf, v_pAndK, v_pOrK, v_liftE, v_e1, v_e2, v_bNil, v_bCons, v_eA, v_vNil, v_vVal, v_vFr, v_liftB, v_q1, v_qAnd, v_qOr, v_qNot, v_eIf, v_gVar, v_gTupD, v_gsNil, v_gsCons, v_pIxLL, v_gIx, v_gIx2, v_sNext, v_sNever, v_sRetN, v_sRet, v_sRetE, v_sRetF, v_sExpr, v_sExprE, v_sIf, v_sIfE, v_seq, v_asg, v_asgE, v_own, v_ownG, v_par, v_aug, v_putNil, v_putV, v_putF, v_iAdd, v_pSl, v_oNone, v_oSome, v_eApp, v_ePop, v_eAppLL, v_eCallO, v_callO, v_i1, v_pM1, v_pChain, v_pIndex, v_aLen, v_aApp, v_pFrz, v_pAO, v_gLst, v_frz0, v_frz0l, v_frzO, v_frz1, v_frzV, v_frzU, R.bind_ok, RE.bind_ok, RE.seq_ok, R.seq_ok, R.seqB_ok, RE.bindA_ok, RA.bind_ok, RA.bindE_ok, RV.bind_ok, RB.bind_ok, RB.bindE_ok, RB.seq_ok, RE.bindB_ok, upB_ok, up_ok, RS.then_nx, RS.then_rt, RS.then_rtO, RS.then_ct, RS.then_bk, o_eqI, o_neI, o_eqB, o_or1, o_or2, o_or3, o_and1, o_and2, o_and3, Int.cast_ofNat_Int, Int.reduceEq, Int.reduceLT, Int.reduceLE, Int.reduceAdd, Int.reduceSub, Int.reduceMul, Int.reduceNeg, o_add, o_sub, o_lt, o_le, o_gt, o_ge, o_int, o_abs, o_lenL, o_lenT, o_lenS, o_isN, o_isnN, n_non, n_int, n_str, n_bl, n_tup, n_lst, n_ins, o_mkT0, o_mkT1, o_mkT2, o_mkT3, o_mkL0, o_mkL1, o_mkL2, o_mkL3, o_maxD, o_minD, o_revT, o_revL, o_ixT0, o_ixT1, o_ixT2, o_isL, o_tupL, o_tupT, o_not, o_neg, ok_match, ok_match2, kt_int, kt_str, kt_bl, kt_tup, kt_lst, kt_non, kt_some, i_enumT, i_enumL, i_lst, i_tup, i_scr, List.getElem?_cons_zero, List.getElem?_cons_succ, List.set_cons_zero, List.set_cons_succ, List.length_cons, List.length_nil, List.length_set, List.map_cons, List.map_nil, List.cons_append, List.nil_append, List.append_nil, Option.bind_some, Option.map_some, Nat.reduceAdd, Nat.reduceLT, Nat.reduceSucc, Nat.zero_lt_succ, Nat.lt_add_left_iff_pos, eq_self, and_self, true_and, and_true, if_true_, if_false_, Int.toNat_natCast, ite_true, ite_false, Bool.not_true, Bool.not_false, Bool.false_eq_true, decide_true, decide_false, wpO_some, turn_nx, turn_ct, turn_bk, reduceCtorEq, Nat.succ_pos, Nat.succ_lt_succ_iff]
  refine wp_range (fun m ρ => ∃ f s4 s7 s8, Low L f ∧ (∀ i j k, i < n → j < n → WkB L m i k j → f i j ≤ k) ∧ ρ = [.val (twD n nm), .val (tiD nm L), .val (.lst (arr n fun k : Nat => .int k)), .own 0 (.ll (matL n f)), s4, s5, s6, s7, s8]) n rfl ?_ ?_ ?_
  · exact ⟨f, _, _, _, low, fun i j k _ _ => up i j k, rfl⟩
  · rintro m _ hm ⟨f0, s4, s7, s8, low, up, rfl⟩
    simp -implicitDefEqProofs only [v_pVar', v_pVarQ', v_pVarR', k_v, k_vq, k_vr, k_oq, k_or, k_or2, k_vVal, k_vFr, k_par, k_set, k_aug, k_own, k_retF, k_ix, k_ix2, k_ixL, oR_s, k_app2, k_app, k_pop3, k_pop2, k_pop, k_apL2, k_apL1, k_apL, k_cal, k_calR, k_calO, k_ch1, k_ch2, k_lst, k_fldV, k_fldO, v_setF, v_pC, v_p1, v_p2, v_p3, v_aNil, v_aCons, v_pA, v_b1, v_asB, v_bAnd, v_bOr, v_bNot, v_pIf, v_pAndK, v_pOrK, v_liftE, v_e1, v_e2, v_bNil, v_bCons, v_eA, v_vNil, v_vVal, v_vFr, v_liftB, v_q1, v_qAnd, v_qOr, v_qNot, v_eIf, v_gVar, v_gTupD, v_gsNil, v_gsCons, v_pIxLL, v_gIx, v_gIx2, v_sNext, v_sNever, v_sRetN, v_sRet, v_sRetE, v_sRetF, v_sExpr, v_sExprE, v_sIf, v_sIfE, v_seq, v_asg, v_asgE, v_own, v_ownG, v_par, v_aug, v_putNil, v_putV, v_putF, v_iAdd, v_pSl, v_oNone, v_oSome, v_eApp, v_ePop, v_eAppLL, v_eCallO, v_callO, v_i1, v_pM1, v_pChain, v_pIndex, v_aLen, v_aApp, v_pFrz, v_pAO, v_gLst, v_frz0, v_frz0l, v_frzO, v_frz1, v_frzV, v_frzU, R.bind_ok, RE.bind_ok, RE.seq_ok, R.seq_ok, R.seqB_ok, RE.bindA_ok, RA.bind_ok, RA.bindE_ok, RV.bind_ok, RB.bind_ok, RB.bindE_ok, RB.seq_ok, RE.bindB_ok, upB_ok, up_ok, RS.then_nx, RS.then_rt, RS.then_rtO, RS.then_ct, RS.then_bk, o_eqI, o_neI, o_eqB, o_or1, o_or2, o_or3, o_and1, o_and2, o_and3, Int.cast_ofNat_Int, Int.reduceEq, Int.reduceLT, Int.reduceLE, Int.reduceAdd, Int.reduceSub, Int.reduceMul, Int.reduceNeg, o_add, o_sub, o_lt, o_le, o_gt, o_ge, o_int, o_abs, o_lenL, o_lenT, o_lenS, o_isN, o_isnN, n_non, n_int, n_str, n_bl, n_tup, n_lst, n_ins, o_mkT0, o_mkT1, o_mkT2, o_mkT3, o_mkL0, o_mkL1, o_mkL2, o_mkL3, o_maxD, o_minD, o_revT, o_revL, o_ixT0, o_ixT1, o_ixT2, o_isL, o_tupL, o_tupT, o_not, o_neg, ok_match, ok_match2, kt_int, kt_str, kt_bl, kt_tup, kt_lst, kt_non, kt_some, i_enumT, i_enumL, i_lst, i_tup, i_scr, List.getElem?_cons_zero, List.getElem?_cons_succ, List.set_cons_zero, List.set_cons_succ, List.length_cons, List.length_nil, List.length_set, List.map_cons, List.map_nil, List.cons_append, List.nil_append, List.append_nil, Option.bind_some, Option.map_some, Nat.reduceAdd, Nat.reduceLT, Nat.reduceSucc, Nat.zero_lt_succ, Nat.lt_add_left_iff_pos, eq_self, and_self, true_and, and_true, if_true_, if_false_, Int.toNat_natCast, ite_true, ite_false, Bool.not_true, Bool.not_false, Bool.false_eq_true, decide_true, decide_false, wpO_some, turn_nx, turn_ct, turn_bk, reduceCtorEq, Nat.succ_pos, Nat.succ_lt_succ_iff]
    refine wp_end ?_
    refine wp_range (fun i ρ => ∃ f s7 s8, Rnd L m f0 f (fun a b => a < i ∧ b < n) ∧ ρ = [.val (twD n nm), .val (tiD nm L), .val (.lst (arr n fun k : Nat => .int k)), .own 0 (.ll (matL n f)), .val (.int (m : Nat)), s5, s6, s7, s8]) n rfl ?_ ?_ ?_
    · exact ⟨f0, _, _, ⟨low, fun _ _ => Nat.le_refl _, fun a b h => by omega⟩, rfl⟩
    · rintro i _ hi ⟨f, s7, s8, rn, rfl⟩
      simp -implicitDefEqProofs only [v_pVar', v_pVarQ', v_pVarR', k_v, k_vq, k_vr, k_oq, k_or, k_or2, k_vVal, k_vFr, k_par, k_set, k_aug, k_own, k_retF, k_ix, k_ix2, k_ixL, oR_s, k_app2, k_app, k_pop3, k_pop2, k_pop, k_apL2, k_apL1, k_apL, k_cal, k_calR, k_calO, k_ch1, k_ch2, k_lst, k_fldV, k_fldO, v_setF, v_pC, v_p1, v_p2, v_p3, v_aNil, v_aCons, v_pA, v_b1, v_asB, v_bAnd, v_bOr, v_bNot, v_pIf, v_pAndK, v_pOrK, v_liftE, v_e1, v_e2, v_bNil, v_bCons, v_eA, v_vNil, v_vVal, v_vFr, v_liftB, v_q1, v_qAnd, v_qOr, v_qNot, v_eIf, v_gVar, v_gTupD, v_gsNil, v_gsCons, v_pIxLL, v_gIx, v_gIx2, v_sNext, v_sNever, v_sRetN, v_sRet, v_sRetE, v_sRetF, v_sExpr, v_sExprE, v_sIf, v_sIfE, v_seq, v_asg, v_asgE, v_own, v_ownG, v_par, v_aug, v_putNil, v_putV, v_putF, v_iAdd, v_pSl, v_oNone, v_oSome, v_eApp, v_ePop, v_eAppLL, v_eCallO, v_callO, v_i1, v_pM1, v_pChain, v_pIndex, v_aLen, v_aApp, v_pFrz, v_pAO, v_gLst, v_frz0, v_frz0l, v_frzO, v_frz1, v_frzV, v_frzU, R.bind_ok, RE.bind_ok, RE.seq_ok, R.seq_ok, R.seqB_ok, RE.bindA_ok, RA.bind_ok, RA.bindE_ok, RV.bind_ok, RB.bind_ok, RB.bindE_ok, RB.seq_ok, RE.bindB_ok, upB_ok, up_ok, RS.then_nx, RS.then_rt, RS.then_rtO, RS.then_ct, RS.then_bk, o_eqI, o_neI, o_eqB, o_or1, o_or2, o_or3, o_and1, o_and2, o_and3, Int.cast_ofNat_Int, Int.reduceEq, Int.reduceLT, Int.reduceLE, Int.reduceAdd, Int.reduceSub, Int.reduceMul, Int.reduceNeg, o_add, o_sub, o_lt, o_le, o_gt, o_ge, o_int, o_abs, o_lenL, o_lenT, o_lenS, o_isN, o_isnN, n_non, n_int, n_str, n_bl, n_tup, n_lst, n_ins, o_mkT0, o_mkT1, o_mkT2, o_mkT3, o_mkL0, o_mkL1, o_mkL2, o_mkL3, o_maxD, o_minD, o_revT, o_revL, o_ixT0, o_ixT1, o_ixT2, o_isL, o_tupL, o_tupT, o_not, o_neg, ok_match, ok_match2, kt_int, kt_str, kt_bl, kt_tup, kt_lst, kt_non, kt_some, i_enumT, i_enumL, i_lst, i_tup, i_scr, List.getElem?_cons_zero, List.getElem?_cons_succ, List.set_cons_zero, List.set_cons_succ, List.length_cons, List.length_nil, List.length_set, List.map_cons, List.map_nil, List.cons_append, List.nil_append, List.append_nil, Option.bind_some, Option.map_some, Nat.reduceAdd, Nat.reduceLT, Nat.reduceSucc, Nat.zero_lt_succ, Nat.lt_add_left_iff_pos, eq_self, and_self, true_and, and_true, if_true_, if_false_, Int.toNat_natCast, ite_true, ite_false, Bool.not_true, Bool.not_false, Bool.false_eq_true, decide_true, decide_false, wpO_some, turn_nx, turn_ct, turn_bk, reduceCtorEq, Nat.succ_pos, Nat.succ_lt_succ_iff]
      refine wp_end ?_
      refine wp_range (fun j ρ => ∃ f s8, Rnd L m f0 f (fun a b => (a < i ∧ b < n) ∨ (a = i ∧ b < j)) ∧ ρ = [.val (twD n nm), .val (tiD nm L), .val (.lst (arr n fun k : Nat => .int k)), .own 0 (.ll (matL n f)), .val (.int (m : Nat)), s5, s6, .val (.int (i : Nat)), s8]) n rfl ?_ ?_ ?_
      · exact ⟨f, _, ⟨rn.low, rn.le, fun a b h => rn.don a b (by omega)⟩, rfl⟩
      · rintro j _ hj ⟨f, s8, rn, rfl⟩
        have hmm : matL n f = arr n fun i => arr n fun j => .int (f i j : Nat) := rfl
        have g1 := arr_get (g := fun i => arr n fun j => D.int (f i j : Nat)) hi
        have a1 := atI_arr (g := fun i => arr n fun j => D.int (f i j : Nat)) hi
        have a2 := atI_arr (g := fun i => arr n fun j => D.int (f i j : Nat)) hm
        have b1 := atI_arr (g := fun j => D.int (f i j : Nat)) hj
        have b2 := atI_arr (g := fun j => D.int (f i j : Nat)) hm
        have b3 := atI_arr (g := fun j => D.int (f m j : Nat)) hj
        have ms := mat_set n f i j (min (min (f i j) (f i m + f m j)) 99)
        simp -implicitDefEqProofs only [v_pVar', v_pVarQ', v_pVarR', k_v, k_vq, k_vr, k_oq, k_or, k_or2, k_vVal, k_vFr, k_par, k_set, k_aug, k_own, k_retF, k_ix, k_ix2, k_ixL, oR_s, k_app2, k_app, k_pop3, k_pop2, k_pop, k_apL2, k_apL1, k_apL, k_cal, k_calR, k_calO, k_ch1, k_ch2, k_lst, k_fldV, k_fldO, v_setF, v_pC, v_p1, v_p2, v_p3, v_aNil, v_aCons, v_pA, v_b1, v_asB, v_bAnd, v_bOr, v_bNot, v_pIf, v_pAndK, v_pOrK, v_liftE, v_e1, v_e2, v_bNil, v_bCons, v_eA, v_vNil, v_vVal, v_vFr, v_liftB, v_q1, v_qAnd, v_qOr, v_qNot, v_eIf, v_gVar, v_gTupD, v_gsNil, v_gsCons, v_pIxLL, v_gIx, v_gIx2, v_sNext, v_sNever, v_sRetN, v_sRet, v_sRetE, v_sRetF, v_sExpr, v_sExprE, v_sIf, v_sIfE, v_seq, v_asg, v_asgE, v_own, v_ownG, v_par, v_aug, v_putNil, v_putV, v_putF, v_iAdd, v_pSl, v_oNone, v_oSome, v_eApp, v_ePop, v_eAppLL, v_eCallO, v_callO, v_i1, v_pM1, v_pChain, v_pIndex, v_aLen, v_aApp, v_pFrz, v_pAO, v_gLst, v_frz0, v_frz0l, v_frzO, v_frz1, v_frzV, v_frzU, R.bind_ok, RE.bind_ok, RE.seq_ok, R.seq_ok, R.seqB_ok, RE.bindA_ok, RA.bind_ok, RA.bindE_ok, RV.bind_ok, RB.bind_ok, RB.bindE_ok, RB.seq_ok, RE.bindB_ok, upB_ok, up_ok, RS.then_nx, RS.then_rt, RS.then_rtO, RS.then_ct, RS.then_bk, o_eqI, o_neI, o_eqB, o_or1, o_or2, o_or3, o_and1, o_and2, o_and3, Int.cast_ofNat_Int, Int.reduceEq, Int.reduceLT, Int.reduceLE, Int.reduceAdd, Int.reduceSub, Int.reduceMul, Int.reduceNeg, o_add, o_sub, o_lt, o_le, o_gt, o_ge, o_int, o_abs, o_lenL, o_lenT, o_lenS, o_isN, o_isnN, n_non, n_int, n_str, n_bl, n_tup, n_lst, n_ins, o_mkT0, o_mkT1, o_mkT2, o_mkT3, o_mkL0, o_mkL1, o_mkL2, o_mkL3, o_maxD, o_minD, o_revT, o_revL, o_ixT0, o_ixT1, o_ixT2, o_isL, o_tupL, o_tupT, o_not, o_neg, ok_match, ok_match2, kt_int, kt_str, kt_bl, kt_tup, kt_lst, kt_non, kt_some, i_enumT, i_enumL, i_lst, i_tup, i_scr, List.getElem?_cons_zero, List.getElem?_cons_succ, List.set_cons_zero, List.set_cons_succ, List.length_cons, List.length_nil, List.length_set, List.map_cons, List.map_nil, List.cons_append, List.nil_append, List.append_nil, Option.bind_some, Option.map_some, Nat.reduceAdd, Nat.reduceLT, Nat.reduceSucc, Nat.zero_lt_succ, Nat.lt_add_left_iff_pos, eq_self, and_self, true_and, and_true, if_true_, if_false_, Int.toNat_natCast, ite_true, ite_false, Bool.not_true, Bool.not_false, Bool.false_eq_true, decide_true, decide_false, wpO_some, turn_nx, turn_ct, turn_bk, reduceCtorEq, Nat.succ_pos, Nat.succ_lt_succ_iff, hmm, a1, a2, b1, b2, b3, o_min3, min3_eq, arr_len, ixN_nat hi, ixN_nat hj, g1, arr_set, ms]
        exact ⟨_, _, rn.step i j fun a b h => by omega, rfl⟩
      · rintro _ ⟨f, s8, rn, rfl⟩
        simp -implicitDefEqProofs only [v_pVar', v_pVarQ', v_pVarR', k_v, k_vq, k_vr, k_oq, k_or, k_or2, k_vVal, k_vFr, k_par, k_set, k_aug, k_own, k_retF, k_ix, k_ix2, k_ixL, oR_s, k_app2, k_app, k_pop3, k_pop2, k_pop, k_apL2, k_apL1, k_apL, k_cal, k_calR, k_calO, k_ch1, k_ch2, k_lst, k_fldV, k_fldO, v_setF, v_pC, v_p1, v_p2, v_p3, v_aNil, v_aCons, v_pA, v_b1, v_asB, v_bAnd, v_bOr, v_bNot, v_pIf, v_pAndK, v_pOrK, v_liftE, v_e1, v_e2, v_bNil, v_bCons, v_eA, v_vNil, v_vVal, v_vFr, v_liftB, v_q1, v_qAnd, v_qOr, v_qNot, v_eIf, v_gVar, v_gTupD, v_gsNil, v_gsCons, v_pIxLL, v_gIx, v_gIx2, v_sNext, v_sNever, v_sRetN, v_sRet, v_sRetE, v_sRetF, v_sExpr, v_sExprE, v_sIf, v_sIfE, v_seq, v_asg, v_asgE, v_own, v_ownG, v_par, v_aug, v_putNil, v_putV, v_putF, v_iAdd, v_pSl, v_oNone, v_oSome, v_eApp, v_ePop, v_eAppLL, v_eCallO, v_callO, v_i1, v_pM1, v_pChain, v_pIndex, v_aLen, v_aApp, v_pFrz, v_pAO, v_gLst, v_frz0, v_frz0l, v_frzO, v_frz1, v_frzV, v_frzU, R.bind_ok, RE.bind_ok, RE.seq_ok, R.seq_ok, R.seqB_ok, RE.bindA_ok, RA.bind_ok, RA.bindE_ok, RV.bind_ok, RB.bind_ok, RB.bindE_ok, RB.seq_ok, RE.bindB_ok, upB_ok, up_ok, RS.then_nx, RS.then_rt, RS.then_rtO, RS.then_ct, RS.then_bk, o_eqI, o_neI, o_eqB, o_or1, o_or2, o_or3, o_and1, o_and2, o_and3, Int.cast_ofNat_Int, Int.reduceEq, Int.reduceLT, Int.reduceLE, Int.reduceAdd, Int.reduceSub, Int.reduceMul, Int.reduceNeg, o_add, o_sub, o_lt, o_le, o_gt, o_ge, o_int, o_abs, o_lenL, o_lenT, o_lenS, o_isN, o_isnN, n_non, n_int, n_str, n_bl, n_tup, n_lst, n_ins, o_mkT0, o_mkT1, o_mkT2, o_mkT3, o_mkL0, o_mkL1, o_mkL2, o_mkL3, o_maxD, o_minD, o_revT, o_revL, o_ixT0, o_ixT1, o_ixT2, o_isL, o_tupL, o_tupT, o_not, o_neg, ok_match, ok_match2, kt_int, kt_str, kt_bl, kt_tup, kt_lst, kt_non, kt_some, i_enumT, i_enumL, i_lst, i_tup, i_scr, List.getElem?_cons_zero, List.getElem?_cons_succ, List.set_cons_zero, List.set_cons_succ, List.length_cons, List.length_nil, List.length_set, List.map_cons, List.map_nil, List.cons_append, List.nil_append, List.append_nil, Option.bind_some, Option.map_some, Nat.reduceAdd, Nat.reduceLT, Nat.reduceSucc, Nat.zero_lt_succ, Nat.lt_add_left_iff_pos, eq_self, and_self, true_and, and_true, if_true_, if_false_, Int.toNat_natCast, ite_true, ite_false, Bool.not_true, Bool.not_false, Bool.false_eq_true, decide_true, decide_false, wpO_some, turn_nx, turn_ct, turn_bk, reduceCtorEq, Nat.succ_pos, Nat.succ_lt_succ_iff]
        exact ⟨_, _, _, ⟨rn.low, rn.le, fun a b h => rn.don a b (by omega)⟩, rfl⟩
    · rintro _ ⟨f, s7, s8, rn, rfl⟩
      simp -implicitDefEqProofs only [v_pVar', v_pVarQ', v_pVarR', k_v, k_vq, k_vr, k_oq, k_or, k_or2, k_vVal, k_vFr, k_par, k_set, k_aug, k_own, k_retF, k_ix, k_ix2, k_ixL, oR_s, k_app2, k_app, k_pop3, k_pop2, k_pop, k_apL2, k_apL1, k_apL, k_cal, k_calR, k_calO, k_ch1, k_ch2, k_lst, k_fldV, k_fldO, v_setF, v_pC, v_p1, v_p2, v_p3, v_aNil, v_aCons, v_pA, v_b1, v_asB, v_bAnd, v_bOr, v_bNot, v_pIf, v_pAndK, v_pOrK, v_liftE, v_e1, v_e2, v_bNil, v_bCons, v_eA, v_vNil, v_vVal, v_vFr, v_liftB, v_q1, v_qAnd, v_qOr, v_qNot, v_eIf, v_gVar, v_gTupD, v_gsNil, v_gsCons, v_pIxLL, v_gIx, v_gIx2, v_sNext, v_sNever, v_sRetN, v_sRet, v_sRetE, v_sRetF, v_sExpr, v_sExprE, v_sIf, v_sIfE, v_seq, v_asg, v_asgE, v_own, v_ownG, v_par, v_aug, v_putNil, v_putV, v_putF, v_iAdd, v_pSl, v_oNone, v_oSome, v_eApp, v_ePop, v_eAppLL, v_eCallO, v_callO, v_i1, v_pM1, v_pChain, v_pIndex, v_aLen, v_aApp, v_pFrz, v_pAO, v_gLst, v_frz0, v_frz0l, v_frzO, v_frz1, v_frzV, v_frzU, R.bind_ok, RE.bind_ok, RE.seq_ok, R.seq_ok, R.seqB_ok, RE.bindA_ok, RA.bind_ok, RA.bindE_ok, RV.bind_ok, RB.bind_ok, RB.bindE_ok, RB.seq_ok, RE.bindB_ok, upB_ok, up_ok, RS.then_nx, RS.then_rt, RS.then_rtO, RS.then_ct, RS.then_bk, o_eqI, o_neI, o_eqB, o_or1, o_or2, o_or3, o_and1, o_and2, o_and3, Int.cast_ofNat_Int, Int.reduceEq, Int.reduceLT, Int.reduceLE, Int.reduceAdd, Int.reduceSub, Int.reduceMul, Int.reduceNeg, o_add, o_sub, o_lt, o_le, o_gt, o_ge, o_int, o_abs, o_lenL, o_lenT, o_lenS, o_isN, o_isnN, n_non, n_int, n_str, n_bl, n_tup, n_lst, n_ins, o_mkT0, o_mkT1, o_mkT2, o_mkT3, o_mkL0, o_mkL1, o_mkL2, o_mkL3, o_maxD, o_minD, o_revT, o_revL, o_ixT0, o_ixT1, o_ixT2, o_isL, o_tupL, o_tupT, o_not, o_neg, ok_match, ok_match2, kt_int, kt_str, kt_bl, kt_tup, kt_lst, kt_non, kt_some, i_enumT, i_enumL, i_lst, i_tup, i_scr, List.getElem?_cons_zero, List.getElem?_cons_succ, List.set_cons_zero, List.set_cons_succ, List.length_cons, List.length_nil, List.length_set, List.map_cons, List.map_nil, List.cons_append, List.nil_append, List.append_nil, Option.bind_some, Option.map_some, Nat.reduceAdd, Nat.reduceLT, Nat.reduceSucc, Nat.zero_lt_succ, Nat.lt_add_left_iff_pos, eq_self, and_self, true_and, and_true, if_true_, if_false_, Int.toNat_natCast, ite_true, ite_false, Bool.not_true, Bool.not_false, Bool.false_eq_true, decide_true, decide_false, wpO_some, turn_nx, turn_ct, turn_bk, reduceCtorEq, Nat.succ_pos, Nat.succ_lt_succ_iff]
      exact ⟨_, _, _, _, rn.low, rn.up T.w up hm, rfl⟩
  · rintro _ ⟨f, s4, s7, s8, low, up, rfl⟩
    have e : (matL n f).map D.lst = distA n L := by
      unfold matL distA
      rw [arr_map]
      refine arr_congr fun i hi => ?_
      congr 1
      refine arr_congr fun j hj => ?_
      rw [span_end T.w (by omega) low up hi hj]
    simp -implicitDefEqProofs only [v_pVar', v_pVarQ', v_pVarR', k_v, k_vq, k_vr, k_oq, k_or, k_or2, k_vVal, k_vFr, k_par, k_set, k_aug, k_own, k_retF, k_ix, k_ix2, k_ixL, oR_s, k_app2, k_app, k_pop3, k_pop2, k_pop, k_apL2, k_apL1, k_apL, k_cal, k_calR, k_calO, k_ch1, k_ch2, k_lst, k_fldV, k_fldO, v_setF, v_pC, v_p1, v_p2, v_p3, v_aNil, v_aCons, v_pA, v_b1, v_asB, v_bAnd, v_bOr, v_bNot, v_pIf, v_pAndK, v_pOrK, v_liftE, v_e1, v_e2, v_bNil, v_bCons, v_eA, v_vNil, v_vVal, v_vFr, v_liftB, v_q1, v_qAnd, v_qOr, v_qNot, v_eIf, v_gVar, v_gTupD, v_gsNil, v_gsCons, v_pIxLL, v_gIx, v_gIx2, v_sNext, v_sNever, v_sRetN, v_sRet, v_sRetE, v_sRetF, v_sExpr, v_sExprE, v_sIf, v_sIfE, v_seq, v_asg, v_asgE, v_own, v_ownG, v_par, v_aug, v_putNil, v_putV, v_putF, v_iAdd, v_pSl, v_oNone, v_oSome, v_eApp, v_ePop, v_eAppLL, v_eCallO, v_callO, v_i1, v_pM1, v_pChain, v_pIndex, v_aLen, v_aApp, v_pFrz, v_pAO, v_gLst, v_frz0, v_frz0l, v_frzO, v_frz1, v_frzV, v_frzU, R.bind_ok, RE.bind_ok, RE.seq_ok, R.seq_ok, R.seqB_ok, RE.bindA_ok, RA.bind_ok, RA.bindE_ok, RV.bind_ok, RB.bind_ok, RB.bindE_ok, RB.seq_ok, RE.bindB_ok, upB_ok, up_ok, RS.then_nx, RS.then_rt, RS.then_rtO, RS.then_ct, RS.then_bk, o_eqI, o_neI, o_eqB, o_or1, o_or2, o_or3, o_and1, o_and2, o_and3, Int.cast_ofNat_Int, Int.reduceEq, Int.reduceLT, Int.reduceLE, Int.reduceAdd, Int.reduceSub, Int.reduceMul, Int.reduceNeg, o_add, o_sub, o_lt, o_le, o_gt, o_ge, o_int, o_abs, o_lenL, o_lenT, o_lenS, o_isN, o_isnN, n_non, n_int, n_str, n_bl, n_tup, n_lst, n_ins, o_mkT0, o_mkT1, o_mkT2, o_mkT3, o_mkL0, o_mkL1, o_mkL2, o_mkL3, o_maxD, o_minD, o_revT, o_revL, o_ixT0, o_ixT1, o_ixT2, o_isL, o_tupL, o_tupT, o_not, o_neg, ok_match, ok_match2, kt_int, kt_str, kt_bl, kt_tup, kt_lst, kt_non, kt_some, i_enumT, i_enumL, i_lst, i_tup, i_scr, List.getElem?_cons_zero, List.getElem?_cons_succ, List.set_cons_zero, List.set_cons_succ, List.length_cons, List.length_nil, List.length_set, List.map_cons, List.map_nil, List.cons_append, List.nil_append, List.append_nil, Option.bind_some, Option.map_some, Nat.reduceAdd, Nat.reduceLT, Nat.reduceSucc, Nat.zero_lt_succ, Nat.lt_add_left_iff_pos, eq_self, and_self, true_and, and_true, if_true_, if_false_, Int.toNat_natCast, ite_true, ite_false, Bool.not_true, Bool.not_false, Bool.false_eq_true, decide_true, decide_false, wpO_some, turn_nx, turn_ct, turn_bk, reduceCtorEq, Nat.succ_pos, Nat.succ_lt_succ_iff, e]
    exact isRt_ok
theorem pool14_name : ∀ x ∈ pool14, callV F_is_name [.str x] = .ok (.bl true) := by
  have h : (pool14.all fun s => match callV F_is_name [.str s] with | .ok (.bl true) => true | _ => false) = true := by decide +kernel
  intro x hx
  have := List.all_eq_true.mp h x hx
  split at this
  · assumption
  · cases this
theorem pool14_sz : ∀ x ∈ pool14, x.cps.size ≤ 8 := by decide +kernel
theorem tags_c {o : Ow} (h : PhOk o) {lo hi : Nat} (h1 : 1 ≤ lo) (h2 : lo ≤ hi) (h3 : hi ≤ 14) : ∃ (n : Nat) (nm : Nat → Str) (o' : Ow), F__law_tags [.own 1 o, .val (.int (lo : Nat)), .val (.int (hi : Nat))] = .ok (.rt (twD n nm)) [.own 1 o', .val (.int (lo : Nat)), .val (.int (hi : Nat))] ∧
    Nms n nm ∧ lo ≤ n ∧ n ≤ hi ∧ PhOk o' := by
  obtain ⟨ts, o', e, nd, hp, l1, l2, ho⟩ := tags_at h h1 h2 h3
  have hts : ts = arr ts.length fun i => ts.getD i default := arr_of _ _
  have hget : ∀ i, (hi : i < ts.length) → ts.getD i default = ts[i] := fun i hi => by rw [List.getD_eq_getElem?_getD, List.getElem?_eq_getElem hi]; rfl
  have hd : D.tup (ts.map .str) = twD ts.length fun i => ts.getD i default := by
    unfold twD twA
    conv => lhs; rw [hts]
    rw [arr_map]
  refine ⟨ts.length, fun i => ts.getD i default, o', by rw [← hd]; exact e, ⟨fun i j hi hj e => ?_, fun i hi => ?_, fun i hi => ?_, by omega, by omega, fun i hi => ?_⟩, l1, l2, ho⟩
  · rw [hget i hi, hget j hj] at e
    exact (List.getElem_inj nd).mp e
  · rw [hget i hi]; exact pool14_fine _ (hp _ (List.getElem_mem hi))
  · rw [hget i hi]; exact pool14_name _ (hp _ (List.getElem_mem hi))
  · rw [hget i hi]; exact pool14_sz _ (hp _ (List.getElem_mem hi))
end MA

set_option Elab.async false
set_option linter.all false
set_option maxRecDepth 100000
set_option maxHeartbeats 4000000
/-! Data that may be shown. -/
namespace MA
open PySem PySem.Spec PyProof.Rows L2 He DL DM Gr
/-- plain data of a depth and a weight -/
structure Sw (k w : Nat) (x : D) : Prop extends Sd k x where
  w : x.py.weight ≤ w
  i : x.py.intsShort 13 = true
  s : x.py.showable = true
theorem Sw.mono {k k' w w' : Nat} {d : D} (h : Sw k w d) (hk : k ≤ k') (hw : w ≤ w') : Sw k' w' d := ⟨h.toSd.mono hk, Nat.le_trans h.w hw, h.i, h.s⟩
theorem Sw.shows {k w : Nat} {d : D} (h : Sw k w d) (hk : k ≤ 64) (hw : w ≤ 1000000) : d.shows = true := by
  have hl : d.py.layable0 = true := by
    unfold PyData.layable0
    have e : (2 : Nat) ^ 20 = 1048576 := by decide
    rw [h.c, decide_eq_true (Nat.le_trans h.d hk), decide_eq_true (by have := h.w; omega : d.py.weight ≤ 2 ^ 20)]
    rfl
  unfold D.shows
  rw [h.p, h.s, decide_eq_true (by have := h.d; omega : d.py.depth ≤ 100), decide_eq_true (PyData.shown_fits_of_layable0 (B := 13) (by omega) (by omega) hl h.i)]
  rfl
theorem Sw.repr {k w : Nat} {d : D} (h : Sw k w d) (hk : k ≤ 64) (hw : w ≤ 1000000) : reprD d = .ok (.str d.py.shown) := if_pos (h.shows hk hw)
theorem log2_lt {n : Nat} (h : n < 1000000000000) : n.log2 < 40 := by
  by_cases h0 : n = 0
  · subst h0; decide
  · exact (Nat.log2_lt h0).mpr (by omega)
theorem sw_int {i : Int} (h : i.natAbs < 1000000000000) : Sw 0 40 (.int i) := by
  have hl := log2_lt h
  refine ⟨sd_int i, ?_, ?_, ?_⟩
  · show (if (i == 0) = true then 0 else i.natAbs.log2 + 1) ≤ 40
    split <;> omega
  · show decide ((PyData.shown (.int i)).length ≤ 13) = true
    exact decide_eq_true (PyData.shown_int_le (by omega))
  · show decide (i.natAbs.log2 < 1920) = true
    exact decide_eq_true (by omega)
theorem sw_nat {i : Nat} (h : i < 1000000000000) : Sw 0 40 (.int (i : Nat)) := sw_int (by simpa using h)
theorem sw_non : Sw 0 0 .non := ⟨sd_non, Nat.le_refl _, rfl, rfl⟩
theorem sw_bl (b : Bool) : Sw 0 0 (.bl b) := ⟨sd_bl b, Nat.le_refl _, rfl, rfl⟩
theorem sw_str {s : Str} {w : Nat} (h : PyData.canLay0 (.str s) = true) (hw : s.cps.size ≤ w) : Sw 0 w (.str s) := ⟨sd_str h, hw, rfl, rfl⟩
theorem sw_all {k w : Nat} : ∀ {xs : List D}, (∀ x ∈ xs, Sw k w x) → PyData.weightAll (pyA xs) ≤ xs.length * (w + 1) ∧ PyData.intsShortAll 13 (pyA xs) = true ∧ PyData.showableAll (pyA xs) = true
  | [], _ => ⟨Nat.zero_le _, rfl, rfl⟩
  | x :: xs, h => by
    obtain ⟨a, b, c⟩ := sw_all fun y hy => h y (List.mem_cons_of_mem _ hy)
    have hx := h x List.mem_cons_self
    refine ⟨?_, ?_, ?_⟩
    · simp only [pyA, PyData.weightAll, List.length_cons, Nat.succ_mul]
      have := hx.w
      omega
    · simp only [pyA, PyData.intsShortAll, hx.i, b, Bool.and_self]
    · simp only [pyA, PyData.showableAll, hx.s, c, Bool.and_self]
theorem sw_tup {k w : Nat} {xs : List D} (h : ∀ x ∈ xs, Sw k w x) : Sw (k + 1) (xs.length * (w + 1)) (.tup xs) := by
  obtain ⟨a, b, c⟩ := sw_all h
  exact ⟨sd_tup fun x hx => (h x hx).toSd, by simpa [D.py, PyData.weight] using a, by simpa [D.py, PyData.intsShort] using b, by simpa [D.py, PyData.showable] using c⟩
theorem sw_lst {k w : Nat} {xs : List D} (h : ∀ x ∈ xs, Sw k w x) : Sw (k + 1) (xs.length * (w + 1)) (.lst xs) := by
  obtain ⟨a, b, c⟩ := sw_all h
  exact ⟨sd_lst fun x hx => (h x hx).toSd, by simpa [D.py, PyData.weight] using a, by simpa [D.py, PyData.intsShort] using b, by simpa [D.py, PyData.showable] using c⟩
theorem sw_arrT {k w n : Nat} {g : Nat → D} (h : ∀ i, i < n → Sw k w (g i)) : Sw (k + 1) (n * (w + 1)) (.tup (arr n g)) := by
  have := sw_tup (k := k) (w := w) (xs := arr n g) fun x hx => by
    obtain ⟨i, hi, rfl⟩ := arr_mem.mp hx
    exact h i hi
  rwa [arr_len] at this
theorem sw_arrL {k w n : Nat} {g : Nat → D} (h : ∀ i, i < n → Sw k w (g i)) : Sw (k + 1) (n * (w + 1)) (.lst (arr n g)) := by
  have := sw_lst (k := k) (w := w) (xs := arr n g) fun x hx => by
    obtain ⟨i, hi, rfl⟩ := arr_mem.mp hx
    exact h i hi
  rwa [arr_len] at this
theorem ne_str_same (s : Str) : neD (.str s) (.str s) = .ok (.bl false) := by
  unfold neD
  split
  · show R.ok (D.bl (!(s == s))) = _
    rw [beq_self_eq_true]; rfl
  · show R.ok (D.bl (true ^^ decide (s = s))) = _
    rw [decide_eq_true rfl]; rfl
theorem eq_str_same (s : Str) : eqD (.str s) (.str s) = .ok (.bl true) := by
  unfold eqD
  split
  · show R.ok (D.bl (s == s)) = _
    rw [beq_self_eq_true]
  · show R.ok (D.bl (false ^^ decide (s = s))) = _
    rw [decide_eq_true rfl]; rfl
/-- equal data are equal -/
theorem eqv_self : ∀ {k : Nat} {d : D}, Sd k d → PyData.eqv d.py d.py = true := by
  have key : ∀ (m : Nat) (d : D), sizeOf d ≤ m → d.pure = true → PyData.eqv d.py d.py = true := by
    intro m
    induction m with
    | zero => intro d h; cases d <;> simp at h
    | succ m ih =>
      have all : ∀ xs : List D, sizeOf xs ≤ m → pureA xs = true → PyData.eqvAll (pyA xs) (pyA xs) = true := by
        intro xs
        induction xs with
        | nil => intro _ _; rfl
        | cons x xs ihx =>
          intro h p
          simp only [pureA, Bool.and_eq_true] at p
          simp only [List.cons.sizeOf_spec] at h
          simp only [pyA, PyData.eqvAll, ih x (by omega) p.1, ihx (by omega) p.2, Bool.and_self]
      intro d h p
      cases d with
      | non => rfl
      | bl b => cases b <;> rfl
      | int i => show (i == i) = true; exact beq_self_eq_true i
      | str s => show (s == s) = true; exact beq_self_eq_true s
      | tup xs =>
        simp only [D.tup.sizeOf_spec] at h
        simp only [D.py, PyData.eqv]
        exact all xs (by omega) (by simpa [D.pure] using p)
      | lst xs =>
        simp only [D.lst.sizeOf_spec] at h
        simp only [D.py, PyData.eqv]
        exact all xs (by omega) (by simpa [D.pure] using p)
      | scr _ => simp [D.pure] at p
      | dct _ => simp [D.pure] at p
      | ins _ _ => simp [D.pure] at p
  intro k d h
  exact key _ d (Nat.le_refl _) h.p
theorem eq_same {k : Nat} {d : D} (h : Sd k d) (hk : k ≤ 64) : eqD d d = .ok (.bl true) := by rw [o_eq h h hk hk, eqv_self h]
theorem ne_same {k : Nat} {d : D} (h : Sd k d) (hk : k ≤ 64) : neD d d = .ok (.bl false) := by rw [o_ne h h hk hk, eqv_self h]; rfl
end MA

set_option Elab.async false
set_option linter.all false
set_option maxRecDepth 100000
set_option maxHeartbeats 8000000
/-! What drops come from; the law's own loop. -/
namespace MA
open PySem PySem.Spec PyProof.Rows L2 He DL DM Gr
theorem iMul_small {a b : Int} (h : (-1000000000 < a ∧ a < 1000000000) ∨ (-1000000000 < b ∧ b < 1000000000)) : iMul a b = true := by
  rcases h with h | h
  · exact iMul_l (by omega) (by omega)
  · exact iMul_r (by omega) (by omega)
theorem o_mulS {a b : Int} (h : (-1000000000 < a ∧ a < 1000000000) ∨ (-1000000000 < b ∧ b < 1000000000)) : mulD (.int a) (.int b) = .ok (.int (a * b)) := o_mul (iMul_small h)
theorem o_pow1016 : powD (.int 10) (.int 16) = .ok (.int 10000000000000000) := by
  show (if (0 : Int) ≤ 16 ∧ (16 : Int) ≤ 1000000 ∧ (10 : Int).natAbs < 2 ^ 64 then R.ok (D.int (10 ^ (16 : Int).toNat)) else .st) = _
  rw [if_pos ⟨by omega, by omega, by decide⟩]
  rfl
theorem o_ixS {ns : List Int} {k : Nat} (h : k < ns.length) : ixD (.scr ns) (.int (k : Nat)) = .ok (.int (ns.getD k 0)) := by
  show (match L2.atI ns (k : Int) with | some d => R.ok (D.int d) | none => .st) = _
  have : L2.atI ns (k : Int) = some (ns.getD k 0) := by
    unfold L2.atI
    rw [ixN_nat h]
    show ns[k]? = _
    rw [List.getElem?_eq_getElem h, List.getD_eq_getElem?_getD, List.getElem?_eq_getElem h]; rfl
  rw [this]
theorem numbered_ints (xs : List Int) : DL.numbered 0 (xs.map .int) = arr xs.length fun i => .tup [.int (i : Nat), .int (xs.getD i 0)] := by
  rw [numbered_of, List.length_map]
  refine arr_congr fun i hi => ?_
  rw [Nat.zero_add, List.getD_eq_getElem?_getD, List.getElem?_map, List.getD_eq_getElem?_getD, List.getElem?_eq_getElem hi]
  rfl
theorem phial_c (ns : List Int) (turn : Nat) : ∃ a b : Int, callL F__law_phial_of [.scr ns, .int (turn : Nat)] = .ok (.lst [.int a, .int b, .int 0]) ∧ 0 ≤ a := by
  suffices h : Wp (m__law_phial_of [.val (.scr ns), .val (.int (turn : Nat)), .un, .un, .un, .un]) fun r => ∃ a b : Int, isRtO (.lst [.int a, .int b, .int 0]) r ∧ 0 ≤ a by
    obtain ⟨a, b, h1, h2⟩ := h
    exact ⟨a, b, cv_rtO (nl := 4) (m := m__law_phial_of) h1, h2⟩
  unfold m__law_phial_of
  have hcell : ∃ cell : Int, pIf (b1 asB (p2 ltD (pVar 1) (p1 lenD (pVar 0)))) (p2 ixD (pVar 0) (pVar 1)) (pC (.int 0)) [.val (.scr ns), .val (.int (turn : Nat)), .un, .un, .un, .un] = .ok (.int cell) := by
    by_cases h : turn < ns.length
    · have h' : (turn : Int) < (ns.length : Int) := by omega
      exact ⟨ns.getD turn 0, by simp -implicitDefEqProofs only [v_pVar', v_pVarQ', v_pVarR', k_v, k_vq, k_vr, k_oq, k_or, k_or2, k_vVal, k_vFr, k_par, k_set, k_aug, k_own, k_retF, k_ix, k_ix2, k_ixL, oR_s, k_app2, k_app, k_pop3, k_pop2, k_pop, k_apL2, k_apL1, k_apL, k_cal, k_calR, k_calO, k_ch1, k_ch2, k_lst, k_fldV, k_fldO, v_setF, v_pC, v_p1, v_p2, v_p3, v_aNil, v_aCons, v_pA, v_b1, v_asB, v_bAnd, v_bOr, v_bNot, v_pIf, v_pAndK, v_pOrK, v_liftE, v_e1, v_e2, v_bNil, v_bCons, v_eA, v_vNil, v_vVal, v_vFr, v_liftB, v_q1, v_qAnd, v_qOr, v_qNot, v_eIf, v_gVar, v_gTupD, v_gsNil, v_gsCons, v_pIxLL, v_gIx, v_gIx2, v_sNext, v_sNever, v_sRetN, v_sRet, v_sRetE, v_sRetF, v_sExpr, v_sExprE, v_sIf, v_sIfE, v_seq, v_asg, v_asgE, v_own, v_ownG, v_par, v_aug, v_putNil, v_putV, v_putF, v_iAdd, v_pSl, v_oNone, v_oSome, v_eApp, v_ePop, v_eAppLL, v_eCallO, v_callO, v_i1, v_pM1, v_pChain, v_pIndex, v_aLen, v_aApp, v_pFrz, v_pAO, v_gLst, v_frz0, v_frz0l, v_frzO, v_frz1, v_frzV, v_frzU, R.bind_ok, RE.bind_ok, RE.seq_ok, R.seq_ok, R.seqB_ok, RE.bindA_ok, RA.bind_ok, RA.bindE_ok, RV.bind_ok, RB.bind_ok, RB.bindE_ok, RB.seq_ok, RE.bindB_ok, upB_ok, up_ok, RS.then_nx, RS.then_rt, RS.then_rtO, RS.then_ct, RS.then_bk, o_eqI, o_neI, o_eqB, o_or1, o_or2, o_or3, o_and1, o_and2, o_and3, Int.cast_ofNat_Int, Int.reduceEq, Int.reduceLT, Int.reduceLE, Int.reduceAdd, Int.reduceSub, Int.reduceMul, Int.reduceNeg, o_add, o_sub, o_lt, o_le, o_gt, o_ge, o_int, o_abs, o_lenL, o_lenT, o_lenS, o_isN, o_isnN, n_non, n_int, n_str, n_bl, n_tup, n_lst, n_ins, o_mkT0, o_mkT1, o_mkT2, o_mkT3, o_mkL0, o_mkL1, o_mkL2, o_mkL3, o_maxD, o_minD, o_revT, o_revL, o_ixT0, o_ixT1, o_ixT2, o_isL, o_tupL, o_tupT, o_not, o_neg, ok_match, ok_match2, kt_int, kt_str, kt_bl, kt_tup, kt_lst, kt_non, kt_some, i_enumT, i_enumL, i_lst, i_tup, i_scr, List.getElem?_cons_zero, List.getElem?_cons_succ, List.set_cons_zero, List.set_cons_succ, List.length_cons, List.length_nil, List.length_set, List.map_cons, List.map_nil, List.cons_append, List.nil_append, List.append_nil, Option.bind_some, Option.map_some, Nat.reduceAdd, Nat.reduceLT, Nat.reduceSucc, Nat.zero_lt_succ, Nat.lt_add_left_iff_pos, eq_self, and_self, true_and, and_true, if_true_, if_false_, Int.toNat_natCast, ite_true, ite_false, Bool.not_true, Bool.not_false, Bool.false_eq_true, decide_true, decide_false, wpO_some, turn_nx, turn_ct, turn_bk, reduceCtorEq, Nat.succ_pos, Nat.succ_lt_succ_iff, h', o_ixS h]⟩
    · have h' : ¬ (turn : Int) < (ns.length : Int) := by omega
      exact ⟨0, by simp -implicitDefEqProofs only [v_pVar', v_pVarQ', v_pVarR', k_v, k_vq, k_vr, k_oq, k_or, k_or2, k_vVal, k_vFr, k_par, k_set, k_aug, k_own, k_retF, k_ix, k_ix2, k_ixL, oR_s, k_app2, k_app, k_pop3, k_pop2, k_pop, k_apL2, k_apL1, k_apL, k_cal, k_calR, k_calO, k_ch1, k_ch2, k_lst, k_fldV, k_fldO, v_setF, v_pC, v_p1, v_p2, v_p3, v_aNil, v_aCons, v_pA, v_b1, v_asB, v_bAnd, v_bOr, v_bNot, v_pIf, v_pAndK, v_pOrK, v_liftE, v_e1, v_e2, v_bNil, v_bCons, v_eA, v_vNil, v_vVal, v_vFr, v_liftB, v_q1, v_qAnd, v_qOr, v_qNot, v_eIf, v_gVar, v_gTupD, v_gsNil, v_gsCons, v_pIxLL, v_gIx, v_gIx2, v_sNext, v_sNever, v_sRetN, v_sRet, v_sRetE, v_sRetF, v_sExpr, v_sExprE, v_sIf, v_sIfE, v_seq, v_asg, v_asgE, v_own, v_ownG, v_par, v_aug, v_putNil, v_putV, v_putF, v_iAdd, v_pSl, v_oNone, v_oSome, v_eApp, v_ePop, v_eAppLL, v_eCallO, v_callO, v_i1, v_pM1, v_pChain, v_pIndex, v_aLen, v_aApp, v_pFrz, v_pAO, v_gLst, v_frz0, v_frz0l, v_frzO, v_frz1, v_frzV, v_frzU, R.bind_ok, RE.bind_ok, RE.seq_ok, R.seq_ok, R.seqB_ok, RE.bindA_ok, RA.bind_ok, RA.bindE_ok, RV.bind_ok, RB.bind_ok, RB.bindE_ok, RB.seq_ok, RE.bindB_ok, upB_ok, up_ok, RS.then_nx, RS.then_rt, RS.then_rtO, RS.then_ct, RS.then_bk, o_eqI, o_neI, o_eqB, o_or1, o_or2, o_or3, o_and1, o_and2, o_and3, Int.cast_ofNat_Int, Int.reduceEq, Int.reduceLT, Int.reduceLE, Int.reduceAdd, Int.reduceSub, Int.reduceMul, Int.reduceNeg, o_add, o_sub, o_lt, o_le, o_gt, o_ge, o_int, o_abs, o_lenL, o_lenT, o_lenS, o_isN, o_isnN, n_non, n_int, n_str, n_bl, n_tup, n_lst, n_ins, o_mkT0, o_mkT1, o_mkT2, o_mkT3, o_mkL0, o_mkL1, o_mkL2, o_mkL3, o_maxD, o_minD, o_revT, o_revL, o_ixT0, o_ixT1, o_ixT2, o_isL, o_tupL, o_tupT, o_not, o_neg, ok_match, ok_match2, kt_int, kt_str, kt_bl, kt_tup, kt_lst, kt_non, kt_some, i_enumT, i_enumL, i_lst, i_tup, i_scr, List.getElem?_cons_zero, List.getElem?_cons_succ, List.set_cons_zero, List.set_cons_succ, List.length_cons, List.length_nil, List.length_set, List.map_cons, List.map_nil, List.cons_append, List.nil_append, List.append_nil, Option.bind_some, Option.map_some, Nat.reduceAdd, Nat.reduceLT, Nat.reduceSucc, Nat.zero_lt_succ, Nat.lt_add_left_iff_pos, eq_self, and_self, true_and, and_true, if_true_, if_false_, Int.toNat_natCast, ite_true, ite_false, Bool.not_true, Bool.not_false, Bool.false_eq_true, decide_true, decide_false, wpO_some, turn_nx, turn_ct, turn_bk, reduceCtorEq, Nat.succ_pos, Nat.succ_lt_succ_iff, h']⟩
  obtain ⟨cell, hc⟩ := hcell
  have m1 : mulD (.int 90019) (.int (turn : Nat)) = .ok (.int (90019 * (turn : Nat))) := o_mulS (.inl (by omega))
  rw [v_seq, v_par]
  simp -implicitDefEqProofs only [v_vVal, v_liftE, hc]
  simp -implicitDefEqProofs only [v_pVar', v_pVarQ', v_pVarR', k_v, k_vq, k_vr, k_oq, k_or, k_or2, k_vVal, k_vFr, k_par, k_set, k_aug, k_own, k_retF, k_ix, k_ix2, k_ixL, oR_s, k_app2, k_app, k_pop3, k_pop2, k_pop, k_apL2, k_apL1, k_apL, k_cal, k_calR, k_calO, k_ch1, k_ch2, k_lst, k_fldV, k_fldO, v_setF, v_pC, v_p1, v_p2, v_p3, v_aNil, v_aCons, v_pA, v_b1, v_asB, v_bAnd, v_bOr, v_bNot, v_pIf, v_pAndK, v_pOrK, v_liftE, v_e1, v_e2, v_bNil, v_bCons, v_eA, v_vNil, v_vVal, v_vFr, v_liftB, v_q1, v_qAnd, v_qOr, v_qNot, v_eIf, v_gVar, v_gTupD, v_gsNil, v_gsCons, v_pIxLL, v_gIx, v_gIx2, v_sNext, v_sNever, v_sRetN, v_sRet, v_sRetE, v_sRetF, v_sExpr, v_sExprE, v_sIf, v_sIfE, v_seq, v_asg, v_asgE, v_own, v_ownG, v_par, v_aug, v_putNil, v_putV, v_putF, v_iAdd, v_pSl, v_oNone, v_oSome, v_eApp, v_ePop, v_eAppLL, v_eCallO, v_callO, v_i1, v_pM1, v_pChain, v_pIndex, v_aLen, v_aApp, v_pFrz, v_pAO, v_gLst, v_frz0, v_frz0l, v_frzO, v_frz1, v_frzV, v_frzU, R.bind_ok, RE.bind_ok, RE.seq_ok, R.seq_ok, R.seqB_ok, RE.bindA_ok, RA.bind_ok, RA.bindE_ok, RV.bind_ok, RB.bind_ok, RB.bindE_ok, RB.seq_ok, RE.bindB_ok, upB_ok, up_ok, RS.then_nx, RS.then_rt, RS.then_rtO, RS.then_ct, RS.then_bk, o_eqI, o_neI, o_eqB, o_or1, o_or2, o_or3, o_and1, o_and2, o_and3, Int.cast_ofNat_Int, Int.reduceEq, Int.reduceLT, Int.reduceLE, Int.reduceAdd, Int.reduceSub, Int.reduceMul, Int.reduceNeg, o_add, o_sub, o_lt, o_le, o_gt, o_ge, o_int, o_abs, o_lenL, o_lenT, o_lenS, o_isN, o_isnN, n_non, n_int, n_str, n_bl, n_tup, n_lst, n_ins, o_mkT0, o_mkT1, o_mkT2, o_mkT3, o_mkL0, o_mkL1, o_mkL2, o_mkL3, o_maxD, o_minD, o_revT, o_revL, o_ixT0, o_ixT1, o_ixT2, o_isL, o_tupL, o_tupT, o_not, o_neg, ok_match, ok_match2, kt_int, kt_str, kt_bl, kt_tup, kt_lst, kt_non, kt_some, i_enumT, i_enumL, i_lst, i_tup, i_scr, List.getElem?_cons_zero, List.getElem?_cons_succ, List.set_cons_zero, List.set_cons_succ, List.length_cons, List.length_nil, List.length_set, List.map_cons, List.map_nil, List.cons_append, List.nil_append, List.append_nil, Option.bind_some, Option.map_some, Nat.reduceAdd, Nat.reduceLT, Nat.reduceSucc, Nat.zero_lt_succ, Nat.lt_add_left_iff_pos, eq_self, and_self, true_and, and_true, if_true_, if_false_, Int.toNat_natCast, ite_true, ite_false, Bool.not_true, Bool.not_false, Bool.false_eq_true, decide_true, decide_false, wpO_some, turn_nx, turn_ct, turn_bk, reduceCtorEq, Nat.succ_pos, Nat.succ_lt_succ_iff, m1]
  refine wp_range (fun k ρ => ∃ sw s4 s5, ρ = [.val (.scr ns), .val (.int (turn : Nat)), .val (.int cell), .val (.int sw), s4, s5]) (DL.cutD ns none (some 7)).length (enc := fun i => .tup [.int (i : Nat), .int ((DL.cutD ns none (some 7)).getD i 0)]) ?_ ?_ ?_ ?_
  · show R.ok (DL.numbered 0 ((DL.cutD ns none (some 7)).map .int)) = _
    rw [numbered_ints]
  · exact ⟨_, _, _, rfl⟩
  · rintro j _ hj ⟨sw, s4, s5, rfl⟩
    generalize (DL.cutD ns none (some 7)).getD j 0 = each
    have hj7 : j < 8 := by
      have : (DL.cutD ns none (some 7)).length ≤ 7 := by
        unfold DL.cutD
        rw [List.length_take]
        have : HT.sIx ns.length ns.length (some 7) ≤ 7 := by
          unfold HT.sIx
          simp
          omega
        have : HT.sIx ns.length 0 none = 0 := rfl
        omega
      omega
    have m2 : mulD (.int 46) (.int (j : Nat)) = .ok (.int (46 * (j : Nat))) := o_mulS (.inl (by omega))
    have m3 : mulD (.int sw) (.int (16033 + 46 * (j : Nat))) = .ok (.int (sw * (16033 + 46 * (j : Nat)))) := o_mulS (.inr (by omega))
    have m4 : mulD (.int 17) (.int each) = .ok (.int (17 * each)) := o_mulS (.inl (by omega))
    have m5 := fun a : Int => o_mod (a := a) (b := 2147482943) (by omega)
    simp -implicitDefEqProofs only [v_pVar', v_pVarQ', v_pVarR', k_v, k_vq, k_vr, k_oq, k_or, k_or2, k_vVal, k_vFr, k_par, k_set, k_aug, k_own, k_retF, k_ix, k_ix2, k_ixL, oR_s, k_app2, k_app, k_pop3, k_pop2, k_pop, k_apL2, k_apL1, k_apL, k_cal, k_calR, k_calO, k_ch1, k_ch2, k_lst, k_fldV, k_fldO, v_setF, v_pC, v_p1, v_p2, v_p3, v_aNil, v_aCons, v_pA, v_b1, v_asB, v_bAnd, v_bOr, v_bNot, v_pIf, v_pAndK, v_pOrK, v_liftE, v_e1, v_e2, v_bNil, v_bCons, v_eA, v_vNil, v_vVal, v_vFr, v_liftB, v_q1, v_qAnd, v_qOr, v_qNot, v_eIf, v_gVar, v_gTupD, v_gsNil, v_gsCons, v_pIxLL, v_gIx, v_gIx2, v_sNext, v_sNever, v_sRetN, v_sRet, v_sRetE, v_sRetF, v_sExpr, v_sExprE, v_sIf, v_sIfE, v_seq, v_asg, v_asgE, v_own, v_ownG, v_par, v_aug, v_putNil, v_putV, v_putF, v_iAdd, v_pSl, v_oNone, v_oSome, v_eApp, v_ePop, v_eAppLL, v_eCallO, v_callO, v_i1, v_pM1, v_pChain, v_pIndex, v_aLen, v_aApp, v_pFrz, v_pAO, v_gLst, v_frz0, v_frz0l, v_frzO, v_frz1, v_frzV, v_frzU, R.bind_ok, RE.bind_ok, RE.seq_ok, R.seq_ok, R.seqB_ok, RE.bindA_ok, RA.bind_ok, RA.bindE_ok, RV.bind_ok, RB.bind_ok, RB.bindE_ok, RB.seq_ok, RE.bindB_ok, upB_ok, up_ok, RS.then_nx, RS.then_rt, RS.then_rtO, RS.then_ct, RS.then_bk, o_eqI, o_neI, o_eqB, o_or1, o_or2, o_or3, o_and1, o_and2, o_and3, Int.cast_ofNat_Int, Int.reduceEq, Int.reduceLT, Int.reduceLE, Int.reduceAdd, Int.reduceSub, Int.reduceMul, Int.reduceNeg, o_add, o_sub, o_lt, o_le, o_gt, o_ge, o_int, o_abs, o_lenL, o_lenT, o_lenS, o_isN, o_isnN, n_non, n_int, n_str, n_bl, n_tup, n_lst, n_ins, o_mkT0, o_mkT1, o_mkT2, o_mkT3, o_mkL0, o_mkL1, o_mkL2, o_mkL3, o_maxD, o_minD, o_revT, o_revL, o_ixT0, o_ixT1, o_ixT2, o_isL, o_tupL, o_tupT, o_not, o_neg, ok_match, ok_match2, kt_int, kt_str, kt_bl, kt_tup, kt_lst, kt_non, kt_some, i_enumT, i_enumL, i_lst, i_tup, i_scr, List.getElem?_cons_zero, List.getElem?_cons_succ, List.set_cons_zero, List.set_cons_succ, List.length_cons, List.length_nil, List.length_set, List.map_cons, List.map_nil, List.cons_append, List.nil_append, List.append_nil, Option.bind_some, Option.map_some, Nat.reduceAdd, Nat.reduceLT, Nat.reduceSucc, Nat.zero_lt_succ, Nat.lt_add_left_iff_pos, eq_self, and_self, true_and, and_true, if_true_, if_false_, Int.toNat_natCast, ite_true, ite_false, Bool.not_true, Bool.not_false, Bool.false_eq_true, decide_true, decide_false, wpO_some, turn_nx, turn_ct, turn_bk, reduceCtorEq, Nat.succ_pos, Nat.succ_lt_succ_iff, m2, m3, m4, m5]
    exact ⟨_, _, _, rfl⟩
  · rintro _ ⟨sw, s4, s5, rfl⟩
    have m4 : mulD (.int 32009) (.int cell) = .ok (.int (32009 * cell)) := o_mulS (.inl (by omega))
    have m5 := fun a : Int => o_mod (a := a) (b := 2147482943) (by omega)
    by_cases c1 : cell < 0
    · simp -implicitDefEqProofs only [v_pVar', v_pVarQ', v_pVarR', k_v, k_vq, k_vr, k_oq, k_or, k_or2, k_vVal, k_vFr, k_par, k_set, k_aug, k_own, k_retF, k_ix, k_ix2, k_ixL, oR_s, k_app2, k_app, k_pop3, k_pop2, k_pop, k_apL2, k_apL1, k_apL, k_cal, k_calR, k_calO, k_ch1, k_ch2, k_lst, k_fldV, k_fldO, v_setF, v_pC, v_p1, v_p2, v_p3, v_aNil, v_aCons, v_pA, v_b1, v_asB, v_bAnd, v_bOr, v_bNot, v_pIf, v_pAndK, v_pOrK, v_liftE, v_e1, v_e2, v_bNil, v_bCons, v_eA, v_vNil, v_vVal, v_vFr, v_liftB, v_q1, v_qAnd, v_qOr, v_qNot, v_eIf, v_gVar, v_gTupD, v_gsNil, v_gsCons, v_pIxLL, v_gIx, v_gIx2, v_sNext, v_sNever, v_sRetN, v_sRet, v_sRetE, v_sRetF, v_sExpr, v_sExprE, v_sIf, v_sIfE, v_seq, v_asg, v_asgE, v_own, v_ownG, v_par, v_aug, v_putNil, v_putV, v_putF, v_iAdd, v_pSl, v_oNone, v_oSome, v_eApp, v_ePop, v_eAppLL, v_eCallO, v_callO, v_i1, v_pM1, v_pChain, v_pIndex, v_aLen, v_aApp, v_pFrz, v_pAO, v_gLst, v_frz0, v_frz0l, v_frzO, v_frz1, v_frzV, v_frzU, R.bind_ok, RE.bind_ok, RE.seq_ok, R.seq_ok, R.seqB_ok, RE.bindA_ok, RA.bind_ok, RA.bindE_ok, RV.bind_ok, RB.bind_ok, RB.bindE_ok, RB.seq_ok, RE.bindB_ok, upB_ok, up_ok, RS.then_nx, RS.then_rt, RS.then_rtO, RS.then_ct, RS.then_bk, o_eqI, o_neI, o_eqB, o_or1, o_or2, o_or3, o_and1, o_and2, o_and3, Int.cast_ofNat_Int, Int.reduceEq, Int.reduceLT, Int.reduceLE, Int.reduceAdd, Int.reduceSub, Int.reduceMul, Int.reduceNeg, o_add, o_sub, o_lt, o_le, o_gt, o_ge, o_int, o_abs, o_lenL, o_lenT, o_lenS, o_isN, o_isnN, n_non, n_int, n_str, n_bl, n_tup, n_lst, n_ins, o_mkT0, o_mkT1, o_mkT2, o_mkT3, o_mkL0, o_mkL1, o_mkL2, o_mkL3, o_maxD, o_minD, o_revT, o_revL, o_ixT0, o_ixT1, o_ixT2, o_isL, o_tupL, o_tupT, o_not, o_neg, ok_match, ok_match2, kt_int, kt_str, kt_bl, kt_tup, kt_lst, kt_non, kt_some, i_enumT, i_enumL, i_lst, i_tup, i_scr, List.getElem?_cons_zero, List.getElem?_cons_succ, List.set_cons_zero, List.set_cons_succ, List.length_cons, List.length_nil, List.length_set, List.map_cons, List.map_nil, List.cons_append, List.nil_append, List.append_nil, Option.bind_some, Option.map_some, Nat.reduceAdd, Nat.reduceLT, Nat.reduceSucc, Nat.zero_lt_succ, Nat.lt_add_left_iff_pos, eq_self, and_self, true_and, and_true, if_true_, if_false_, Int.toNat_natCast, ite_true, ite_false, Bool.not_true, Bool.not_false, Bool.false_eq_true, decide_true, decide_false, wpO_some, turn_nx, turn_ct, turn_bk, reduceCtorEq, Nat.succ_pos, Nat.succ_lt_succ_iff, c1, m4, m5]
      exact ⟨_, _, ⟨_, rfl⟩, by omega⟩
    · by_cases c2 : (10000000000000000 : Int) ≤ cell
      · simp -implicitDefEqProofs only [v_pVar', v_pVarQ', v_pVarR', k_v, k_vq, k_vr, k_oq, k_or, k_or2, k_vVal, k_vFr, k_par, k_set, k_aug, k_own, k_retF, k_ix, k_ix2, k_ixL, oR_s, k_app2, k_app, k_pop3, k_pop2, k_pop, k_apL2, k_apL1, k_apL, k_cal, k_calR, k_calO, k_ch1, k_ch2, k_lst, k_fldV, k_fldO, v_setF, v_pC, v_p1, v_p2, v_p3, v_aNil, v_aCons, v_pA, v_b1, v_asB, v_bAnd, v_bOr, v_bNot, v_pIf, v_pAndK, v_pOrK, v_liftE, v_e1, v_e2, v_bNil, v_bCons, v_eA, v_vNil, v_vVal, v_vFr, v_liftB, v_q1, v_qAnd, v_qOr, v_qNot, v_eIf, v_gVar, v_gTupD, v_gsNil, v_gsCons, v_pIxLL, v_gIx, v_gIx2, v_sNext, v_sNever, v_sRetN, v_sRet, v_sRetE, v_sRetF, v_sExpr, v_sExprE, v_sIf, v_sIfE, v_seq, v_asg, v_asgE, v_own, v_ownG, v_par, v_aug, v_putNil, v_putV, v_putF, v_iAdd, v_pSl, v_oNone, v_oSome, v_eApp, v_ePop, v_eAppLL, v_eCallO, v_callO, v_i1, v_pM1, v_pChain, v_pIndex, v_aLen, v_aApp, v_pFrz, v_pAO, v_gLst, v_frz0, v_frz0l, v_frzO, v_frz1, v_frzV, v_frzU, R.bind_ok, RE.bind_ok, RE.seq_ok, R.seq_ok, R.seqB_ok, RE.bindA_ok, RA.bind_ok, RA.bindE_ok, RV.bind_ok, RB.bind_ok, RB.bindE_ok, RB.seq_ok, RE.bindB_ok, upB_ok, up_ok, RS.then_nx, RS.then_rt, RS.then_rtO, RS.then_ct, RS.then_bk, o_eqI, o_neI, o_eqB, o_or1, o_or2, o_or3, o_and1, o_and2, o_and3, Int.cast_ofNat_Int, Int.reduceEq, Int.reduceLT, Int.reduceLE, Int.reduceAdd, Int.reduceSub, Int.reduceMul, Int.reduceNeg, o_add, o_sub, o_lt, o_le, o_gt, o_ge, o_int, o_abs, o_lenL, o_lenT, o_lenS, o_isN, o_isnN, n_non, n_int, n_str, n_bl, n_tup, n_lst, n_ins, o_mkT0, o_mkT1, o_mkT2, o_mkT3, o_mkL0, o_mkL1, o_mkL2, o_mkL3, o_maxD, o_minD, o_revT, o_revL, o_ixT0, o_ixT1, o_ixT2, o_isL, o_tupL, o_tupT, o_not, o_neg, ok_match, ok_match2, kt_int, kt_str, kt_bl, kt_tup, kt_lst, kt_non, kt_some, i_enumT, i_enumL, i_lst, i_tup, i_scr, List.getElem?_cons_zero, List.getElem?_cons_succ, List.set_cons_zero, List.set_cons_succ, List.length_cons, List.length_nil, List.length_set, List.map_cons, List.map_nil, List.cons_append, List.nil_append, List.append_nil, Option.bind_some, Option.map_some, Nat.reduceAdd, Nat.reduceLT, Nat.reduceSucc, Nat.zero_lt_succ, Nat.lt_add_left_iff_pos, eq_self, and_self, true_and, and_true, if_true_, if_false_, Int.toNat_natCast, ite_true, ite_false, Bool.not_true, Bool.not_false, Bool.false_eq_true, decide_true, decide_false, wpO_some, turn_nx, turn_ct, turn_bk, reduceCtorEq, Nat.succ_pos, Nat.succ_lt_succ_iff, c1, c2, o_pow1016, m4, m5]
        exact ⟨_, _, ⟨_, rfl⟩, by omega⟩
      · simp -implicitDefEqProofs only [v_pVar', v_pVarQ', v_pVarR', k_v, k_vq, k_vr, k_oq, k_or, k_or2, k_vVal, k_vFr, k_par, k_set, k_aug, k_own, k_retF, k_ix, k_ix2, k_ixL, oR_s, k_app2, k_app, k_pop3, k_pop2, k_pop, k_apL2, k_apL1, k_apL, k_cal, k_calR, k_calO, k_ch1, k_ch2, k_lst, k_fldV, k_fldO, v_setF, v_pC, v_p1, v_p2, v_p3, v_aNil, v_aCons, v_pA, v_b1, v_asB, v_bAnd, v_bOr, v_bNot, v_pIf, v_pAndK, v_pOrK, v_liftE, v_e1, v_e2, v_bNil, v_bCons, v_eA, v_vNil, v_vVal, v_vFr, v_liftB, v_q1, v_qAnd, v_qOr, v_qNot, v_eIf, v_gVar, v_gTupD, v_gsNil, v_gsCons, v_pIxLL, v_gIx, v_gIx2, v_sNext, v_sNever, v_sRetN, v_sRet, v_sRetE, v_sRetF, v_sExpr, v_sExprE, v_sIf, v_sIfE, v_seq, v_asg, v_asgE, v_own, v_ownG, v_par, v_aug, v_putNil, v_putV, v_putF, v_iAdd, v_pSl, v_oNone, v_oSome, v_eApp, v_ePop, v_eAppLL, v_eCallO, v_callO, v_i1, v_pM1, v_pChain, v_pIndex, v_aLen, v_aApp, v_pFrz, v_pAO, v_gLst, v_frz0, v_frz0l, v_frzO, v_frz1, v_frzV, v_frzU, R.bind_ok, RE.bind_ok, RE.seq_ok, R.seq_ok, R.seqB_ok, RE.bindA_ok, RA.bind_ok, RA.bindE_ok, RV.bind_ok, RB.bind_ok, RB.bindE_ok, RB.seq_ok, RE.bindB_ok, upB_ok, up_ok, RS.then_nx, RS.then_rt, RS.then_rtO, RS.then_ct, RS.then_bk, o_eqI, o_neI, o_eqB, o_or1, o_or2, o_or3, o_and1, o_and2, o_and3, Int.cast_ofNat_Int, Int.reduceEq, Int.reduceLT, Int.reduceLE, Int.reduceAdd, Int.reduceSub, Int.reduceMul, Int.reduceNeg, o_add, o_sub, o_lt, o_le, o_gt, o_ge, o_int, o_abs, o_lenL, o_lenT, o_lenS, o_isN, o_isnN, n_non, n_int, n_str, n_bl, n_tup, n_lst, n_ins, o_mkT0, o_mkT1, o_mkT2, o_mkT3, o_mkL0, o_mkL1, o_mkL2, o_mkL3, o_maxD, o_minD, o_revT, o_revL, o_ixT0, o_ixT1, o_ixT2, o_isL, o_tupL, o_tupT, o_not, o_neg, ok_match, ok_match2, kt_int, kt_str, kt_bl, kt_tup, kt_lst, kt_non, kt_some, i_enumT, i_enumL, i_lst, i_tup, i_scr, List.getElem?_cons_zero, List.getElem?_cons_succ, List.set_cons_zero, List.set_cons_succ, List.length_cons, List.length_nil, List.length_set, List.map_cons, List.map_nil, List.cons_append, List.nil_append, List.append_nil, Option.bind_some, Option.map_some, Nat.reduceAdd, Nat.reduceLT, Nat.reduceSucc, Nat.zero_lt_succ, Nat.lt_add_left_iff_pos, eq_self, and_self, true_and, and_true, if_true_, if_false_, Int.toNat_natCast, ite_true, ite_false, Bool.not_true, Bool.not_false, Bool.false_eq_true, decide_true, decide_false, wpO_some, turn_nx, turn_ct, turn_bk, reduceCtorEq, Nat.succ_pos, Nat.succ_lt_succ_iff, c1, c2, o_pow1016, m4, m5]
        exact ⟨_, _, ⟨_, rfl⟩, by omega⟩
theorem all_true {α : Type} (xs : List α) : allD (.lst (xs.map fun _ => .bl true)) = .ok (.bl true) := by
  have e : xs.map (fun _ => D.bl true) = (xs.map fun _ => true).map D.bl := by rw [List.map_map]; rfl
  rw [e]
  unfold allD
  dsimp only
  rw [bools_map]
  simp
theorem pCallF_of {F : List Sl → RS} {ga : List Sl → R Ow} {ρ ρ' : List Sl} {o : Ow} {d : D} (h : ga ρ = .ok o) (h2 : F [.own 0 o] = .ok (.rt d) ρ') : pCallF F ga ρ = .ok d := by
  unfold pCallF
  rw [h, R.bind_ok, h2]
/-- laws that ask by each of up to five numbers, two at least -/
theorem law_of {F : List Sl → RS} {nl k : Nat} {m : List Sl → RS} (hF : F = runF nl m) (ns : List Int) (h : ∀ o, PhOk o → Wp (m (.own 0 o :: List.replicate nl .un)) (isRt (.bl true))) (hk : k < 1000) :
    ∃ ρ, runF 1 (sRet (p1 allD (p1 isL (pLc (iRange1 (p2 maxD (pC (.int 2)) (p2 minD (p1 lenD (pVar 0)) (pC (.int (k : Nat)))))) [1] (gVar 1) tYes' (pCallF F (gLst (pA (callL F__law_phial_of) (aCons (pVar 0) (aCons (pVar 1) aNil))))))))) [.val (.scr ns)] = .ok (.rt (.bl true)) ρ := by
  suffices hs : Wp ((sRet (p1 allD (p1 isL (pLc (iRange1 (p2 maxD (pC (.int 2)) (p2 minD (p1 lenD (pVar 0)) (pC (.int (k : Nat)))))) [1] (gVar 1) tYes' (pCallF F (gLst (pA (callL F__law_phial_of) (aCons (pVar 0) (aCons (pVar 1) aNil))))))))) [.val (.scr ns), .un]) (isRt (.bl true)) by
    obtain ⟨ρ, hs⟩ := hs
    exact ⟨_, runF_rt (nl := 1) hs⟩
  have hr : iRange1 (p2 maxD (pC (.int 2)) (p2 minD (p1 lenD (pVar 0)) (pC (.int (k : Nat))))) [.val (.scr ns), .un] = .ok (arr (max 2 (min ns.length k)) fun i : Nat => .int i) := by
    refine v_range1 ?_ (by omega)
    simp -implicitDefEqProofs only [v_pVar', v_pVarQ', v_pVarR', k_v, k_vq, k_vr, k_oq, k_or, k_or2, k_vVal, k_vFr, k_par, k_set, k_aug, k_own, k_retF, k_ix, k_ix2, k_ixL, oR_s, k_app2, k_app, k_pop3, k_pop2, k_pop, k_apL2, k_apL1, k_apL, k_cal, k_calR, k_calO, k_ch1, k_ch2, k_lst, k_fldV, k_fldO, v_setF, v_pC, v_p1, v_p2, v_p3, v_aNil, v_aCons, v_pA, v_b1, v_asB, v_bAnd, v_bOr, v_bNot, v_pIf, v_pAndK, v_pOrK, v_liftE, v_e1, v_e2, v_bNil, v_bCons, v_eA, v_vNil, v_vVal, v_vFr, v_liftB, v_q1, v_qAnd, v_qOr, v_qNot, v_eIf, v_gVar, v_gTupD, v_gsNil, v_gsCons, v_pIxLL, v_gIx, v_gIx2, v_sNext, v_sNever, v_sRetN, v_sRet, v_sRetE, v_sRetF, v_sExpr, v_sExprE, v_sIf, v_sIfE, v_seq, v_asg, v_asgE, v_own, v_ownG, v_par, v_aug, v_putNil, v_putV, v_putF, v_iAdd, v_pSl, v_oNone, v_oSome, v_eApp, v_ePop, v_eAppLL, v_eCallO, v_callO, v_i1, v_pM1, v_pChain, v_pIndex, v_aLen, v_aApp, v_pFrz, v_pAO, v_gLst, v_frz0, v_frz0l, v_frzO, v_frz1, v_frzV, v_frzU, R.bind_ok, RE.bind_ok, RE.seq_ok, R.seq_ok, R.seqB_ok, RE.bindA_ok, RA.bind_ok, RA.bindE_ok, RV.bind_ok, RB.bind_ok, RB.bindE_ok, RB.seq_ok, RE.bindB_ok, upB_ok, up_ok, RS.then_nx, RS.then_rt, RS.then_rtO, RS.then_ct, RS.then_bk, o_eqI, o_neI, o_eqB, o_or1, o_or2, o_or3, o_and1, o_and2, o_and3, Int.cast_ofNat_Int, Int.reduceEq, Int.reduceLT, Int.reduceLE, Int.reduceAdd, Int.reduceSub, Int.reduceMul, Int.reduceNeg, o_add, o_sub, o_lt, o_le, o_gt, o_ge, o_int, o_abs, o_lenL, o_lenT, o_lenS, o_isN, o_isnN, n_non, n_int, n_str, n_bl, n_tup, n_lst, n_ins, o_mkT0, o_mkT1, o_mkT2, o_mkT3, o_mkL0, o_mkL1, o_mkL2, o_mkL3, o_maxD, o_minD, o_revT, o_revL, o_ixT0, o_ixT1, o_ixT2, o_isL, o_tupL, o_tupT, o_not, o_neg, ok_match, ok_match2, kt_int, kt_str, kt_bl, kt_tup, kt_lst, kt_non, kt_some, i_enumT, i_enumL, i_lst, i_tup, i_scr, List.getElem?_cons_zero, List.getElem?_cons_succ, List.set_cons_zero, List.set_cons_succ, List.length_cons, List.length_nil, List.length_set, List.map_cons, List.map_nil, List.cons_append, List.nil_append, List.append_nil, Option.bind_some, Option.map_some, Nat.reduceAdd, Nat.reduceLT, Nat.reduceSucc, Nat.zero_lt_succ, Nat.lt_add_left_iff_pos, eq_self, and_self, true_and, and_true, if_true_, if_false_, Int.toNat_natCast, ite_true, ite_false, Bool.not_true, Bool.not_false, Bool.false_eq_true, decide_true, decide_false, wpO_some, turn_nx, turn_ct, turn_bk, reduceCtorEq, Nat.succ_pos, Nat.succ_lt_succ_iff]
    congr 2
    split <;> split <;> omega
  rw [v_sRet]
  simp -implicitDefEqProofs only [v_p1]
  rw [pLc_map (fun i : Nat => .int i) (fun _ => .bl true) (List.range (max 2 (min ns.length k))) hr]
  rotate_left
  · intro t ht
    refine ⟨_, rfl, rfl, ?_⟩
    obtain ⟨a, b, e, ha⟩ := phial_c ns t
    obtain ⟨ρ', h2⟩ := h (.lst [.int a, .int b, .int 0]) ⟨a, b, 0, rfl, ha⟩
    refine pCallF_of (o := .lst [.int a, .int b, .int 0]) ?_ (by rw [hF]; exact runF_rt (ρ := [.own 0 _]) h2)
    simp -implicitDefEqProofs only [v_pVar', v_pVarQ', v_pVarR', k_v, k_vq, k_vr, k_oq, k_or, k_or2, k_vVal, k_vFr, k_par, k_set, k_aug, k_own, k_retF, k_ix, k_ix2, k_ixL, oR_s, k_app2, k_app, k_pop3, k_pop2, k_pop, k_apL2, k_apL1, k_apL, k_cal, k_calR, k_calO, k_ch1, k_ch2, k_lst, k_fldV, k_fldO, v_setF, v_pC, v_p1, v_p2, v_p3, v_aNil, v_aCons, v_pA, v_b1, v_asB, v_bAnd, v_bOr, v_bNot, v_pIf, v_pAndK, v_pOrK, v_liftE, v_e1, v_e2, v_bNil, v_bCons, v_eA, v_vNil, v_vVal, v_vFr, v_liftB, v_q1, v_qAnd, v_qOr, v_qNot, v_eIf, v_gVar, v_gTupD, v_gsNil, v_gsCons, v_pIxLL, v_gIx, v_gIx2, v_sNext, v_sNever, v_sRetN, v_sRet, v_sRetE, v_sRetF, v_sExpr, v_sExprE, v_sIf, v_sIfE, v_seq, v_asg, v_asgE, v_own, v_ownG, v_par, v_aug, v_putNil, v_putV, v_putF, v_iAdd, v_pSl, v_oNone, v_oSome, v_eApp, v_ePop, v_eAppLL, v_eCallO, v_callO, v_i1, v_pM1, v_pChain, v_pIndex, v_aLen, v_aApp, v_pFrz, v_pAO, v_gLst, v_frz0, v_frz0l, v_frzO, v_frz1, v_frzV, v_frzU, R.bind_ok, RE.bind_ok, RE.seq_ok, R.seq_ok, R.seqB_ok, RE.bindA_ok, RA.bind_ok, RA.bindE_ok, RV.bind_ok, RB.bind_ok, RB.bindE_ok, RB.seq_ok, RE.bindB_ok, upB_ok, up_ok, RS.then_nx, RS.then_rt, RS.then_rtO, RS.then_ct, RS.then_bk, o_eqI, o_neI, o_eqB, o_or1, o_or2, o_or3, o_and1, o_and2, o_and3, Int.cast_ofNat_Int, Int.reduceEq, Int.reduceLT, Int.reduceLE, Int.reduceAdd, Int.reduceSub, Int.reduceMul, Int.reduceNeg, o_add, o_sub, o_lt, o_le, o_gt, o_ge, o_int, o_abs, o_lenL, o_lenT, o_lenS, o_isN, o_isnN, n_non, n_int, n_str, n_bl, n_tup, n_lst, n_ins, o_mkT0, o_mkT1, o_mkT2, o_mkT3, o_mkL0, o_mkL1, o_mkL2, o_mkL3, o_maxD, o_minD, o_revT, o_revL, o_ixT0, o_ixT1, o_ixT2, o_isL, o_tupL, o_tupT, o_not, o_neg, ok_match, ok_match2, kt_int, kt_str, kt_bl, kt_tup, kt_lst, kt_non, kt_some, i_enumT, i_enumL, i_lst, i_tup, i_scr, List.getElem?_cons_zero, List.getElem?_cons_succ, List.set_cons_zero, List.set_cons_succ, List.length_cons, List.length_nil, List.length_set, List.map_cons, List.map_nil, List.cons_append, List.nil_append, List.append_nil, Option.bind_some, Option.map_some, Nat.reduceAdd, Nat.reduceLT, Nat.reduceSucc, Nat.zero_lt_succ, Nat.lt_add_left_iff_pos, eq_self, and_self, true_and, and_true, if_true_, if_false_, Int.toNat_natCast, ite_true, ite_false, Bool.not_true, Bool.not_false, Bool.false_eq_true, decide_true, decide_false, wpO_some, turn_nx, turn_ct, turn_bk, reduceCtorEq, Nat.succ_pos, Nat.succ_lt_succ_iff, wipeS, e]
  · rw [List.length_range]; omega
  simp -implicitDefEqProofs only [v_pVar', v_pVarQ', v_pVarR', k_v, k_vq, k_vr, k_oq, k_or, k_or2, k_vVal, k_vFr, k_par, k_set, k_aug, k_own, k_retF, k_ix, k_ix2, k_ixL, oR_s, k_app2, k_app, k_pop3, k_pop2, k_pop, k_apL2, k_apL1, k_apL, k_cal, k_calR, k_calO, k_ch1, k_ch2, k_lst, k_fldV, k_fldO, v_setF, v_pC, v_p1, v_p2, v_p3, v_aNil, v_aCons, v_pA, v_b1, v_asB, v_bAnd, v_bOr, v_bNot, v_pIf, v_pAndK, v_pOrK, v_liftE, v_e1, v_e2, v_bNil, v_bCons, v_eA, v_vNil, v_vVal, v_vFr, v_liftB, v_q1, v_qAnd, v_qOr, v_qNot, v_eIf, v_gVar, v_gTupD, v_gsNil, v_gsCons, v_pIxLL, v_gIx, v_gIx2, v_sNext, v_sNever, v_sRetN, v_sRet, v_sRetE, v_sRetF, v_sExpr, v_sExprE, v_sIf, v_sIfE, v_seq, v_asg, v_asgE, v_own, v_ownG, v_par, v_aug, v_putNil, v_putV, v_putF, v_iAdd, v_pSl, v_oNone, v_oSome, v_eApp, v_ePop, v_eAppLL, v_eCallO, v_callO, v_i1, v_pM1, v_pChain, v_pIndex, v_aLen, v_aApp, v_pFrz, v_pAO, v_gLst, v_frz0, v_frz0l, v_frzO, v_frz1, v_frzV, v_frzU, R.bind_ok, RE.bind_ok, RE.seq_ok, R.seq_ok, R.seqB_ok, RE.bindA_ok, RA.bind_ok, RA.bindE_ok, RV.bind_ok, RB.bind_ok, RB.bindE_ok, RB.seq_ok, RE.bindB_ok, upB_ok, up_ok, RS.then_nx, RS.then_rt, RS.then_rtO, RS.then_ct, RS.then_bk, o_eqI, o_neI, o_eqB, o_or1, o_or2, o_or3, o_and1, o_and2, o_and3, Int.cast_ofNat_Int, Int.reduceEq, Int.reduceLT, Int.reduceLE, Int.reduceAdd, Int.reduceSub, Int.reduceMul, Int.reduceNeg, o_add, o_sub, o_lt, o_le, o_gt, o_ge, o_int, o_abs, o_lenL, o_lenT, o_lenS, o_isN, o_isnN, n_non, n_int, n_str, n_bl, n_tup, n_lst, n_ins, o_mkT0, o_mkT1, o_mkT2, o_mkT3, o_mkL0, o_mkL1, o_mkL2, o_mkL3, o_maxD, o_minD, o_revT, o_revL, o_ixT0, o_ixT1, o_ixT2, o_isL, o_tupL, o_tupT, o_not, o_neg, ok_match, ok_match2, kt_int, kt_str, kt_bl, kt_tup, kt_lst, kt_non, kt_some, i_enumT, i_enumL, i_lst, i_tup, i_scr, List.getElem?_cons_zero, List.getElem?_cons_succ, List.set_cons_zero, List.set_cons_succ, List.length_cons, List.length_nil, List.length_set, List.map_cons, List.map_nil, List.cons_append, List.nil_append, List.append_nil, Option.bind_some, Option.map_some, Nat.reduceAdd, Nat.reduceLT, Nat.reduceSucc, Nat.zero_lt_succ, Nat.lt_add_left_iff_pos, eq_self, and_self, true_and, and_true, if_true_, if_false_, Int.toNat_natCast, ite_true, ite_false, Bool.not_true, Bool.not_false, Bool.false_eq_true, decide_true, decide_false, wpO_some, turn_nx, turn_ct, turn_bk, reduceCtorEq, Nat.succ_pos, Nat.succ_lt_succ_iff, all_true]
  exact isRt_ok
theorem callA_1 {F : List Sl → RS} {a : D} : callA F 1 [0] [] [a] = callV F [a] := rfl
theorem callA_321 {F : List Sl → RS} {a b c : D} : callA F 3 [2, 1, 0] [] [a, b, c] = callV F [c, b, a] := rfl
theorem mk_web {K : Fg} {n : Nat} {nm : Nat → Str} {L : Es} (W : Wb n nm L) : mkD (F_Web___init__ K) (ga K "Web") 3 [0, 1] [(.tup [])] [twD n nm, tiD nm L] = .ok (.ins (ga K "Web") (webF n nm L)) := by
  unfold mkD
  have e : pick [0, 1] ([twD n nm, tiD nm L] ++ [(.tup [])]) = [twD n nm, tiD nm L] := rfl
  rw [e]
  show mkR (F_Web___init__ K [.own 1 (.ins (ga K "Web") []), .val (twD n nm), .val (tiD nm L)]) = _
  rw [web_init W]
  rfl
theorem mk_web1 {K : Fg} {n : Nat} {nm : Nat → Str} (W : Wb n nm []) : mkD (F_Web___init__ K) (ga K "Web") 3 [0, 1] [(.tup [])] [twD n nm] = .ok (.ins (ga K "Web") (webF n nm [])) := by
  unfold mkD
  have e : pick [0, 1] ([twD n nm] ++ [(.tup [])]) = [twD n nm, tiD nm []] := rfl
  rw [e]
  show mkR (F_Web___init__ K [.own 1 (.ins (ga K "Web") []), .val (twD n nm), .val (tiD nm [])]) = _
  rw [web_init W]
  rfl
theorem can_ins {C : Addr} {fs : List (Str × D)} : Ow.can (.ins C fs) = true := rfl
theorem d_ins {C : Addr} {fs : List (Str × D)} : Ow.d (.ins C fs) = .ins C fs := rfl
theorem web_ins {K : Fg} {n : Nat} {nm : Nat → Str} {L : Es} : D.ins (ga K "Web") (webF n nm L) = webD K n nm L := rfl
theorem pLc_none {α : Type} {src : List Sl → R (List D)} {vs : List Nat} {tf : D → List Sl → Option (List Sl)} {c : List Sl → R Bool} {g : List Sl → R D} {ρ : List Sl} (enc : α → D) (xs : List α) (hs : src ρ = .ok (xs.map enc))
    (h : ∀ x ∈ xs, ∃ ρ1, tf (enc x) (wipeS ρ vs) = some ρ1 ∧ c ρ1 = .ok false) (hl : xs.length ≤ 1000000) : pLc src vs tf c g ρ = .ok (.lst []) := by
  have := pLc_filter (src := src) (vs := vs) (tf := tf) (c := c) (g := g) (ρ := ρ) enc (fun _ => false) (fun _ => .non) xs hs (fun x hx => by
    obtain ⟨ρ1, h1, h2⟩ := h x hx
    exact ⟨ρ1, h1, h2, fun z => by cases z⟩) hl
  rw [this]
  simp
theorem one_nms : Nms 1 fun _ => "a" := ⟨fun i j hi hj _ => by omega, fun i _ => pool14_fine _ (by decide +kernel), fun i _ => pool14_name _ (by decide +kernel), by omega, by omega, fun i _ => by decide +kernel⟩
theorem one_wb : Wb 1 (fun _ => "a") [] := ⟨one_nms, .nil 1, by simp, .one []⟩
theorem one_tw : D.tup [.str "a"] = twD 1 fun _ => "a" := rfl
theorem dst_small {n : Nat} {nm : Nat → Str} {L : Es} (W : Wb n nm L) {i j : Nat} (hi : i < n) (hj : j < n) : dst L i j < 14 := by
  have := (W.H.dst hi hj).lt W.T.w hi
  have := W.N.hi
  omega
end MA

set_option Elab.async false
set_option linter.all false
set_option maxRecDepth 100000
set_option maxHeartbeats 8000000
/-! Webs of known forms. -/
namespace MA
open PySem PySem.Spec PyProof.Rows L2 He DL DM Gr
def tn (i : Nat) : Str := ("t" : Str) ++ ((toString (i : Int) : String) : Str)
theorem tn_inj : ∀ i j, i < 14 → j < 14 → tn i = tn j → i = j := by
  have h : ((List.range 14).all fun i => (List.range 14).all fun j => decide (tn i = tn j → i = j)) = true := by decide +kernel
  intro i j hi hj
  have := List.all_eq_true.mp h i (List.mem_range.mpr hi)
  exact of_decide_eq_true (List.all_eq_true.mp this j (List.mem_range.mpr hj))
theorem tn_fine : ∀ i, i < 14 → PyData.canLay0 (.str (tn i)) = true := by
  have h : ((List.range 14).all fun i => PyData.canLay0 (.str (tn i))) = true := by decide +kernel
  exact fun i hi => List.all_eq_true.mp h i (List.mem_range.mpr hi)
def isT (r : R D) : Bool := match r with
  | .ok (.bl true) => true
  | _ => false
theorem isT_eq {r : R D} (h : isT r = true) : r = .ok (.bl true) := by
  unfold isT at h
  split at h
  · rfl
  · cases h
theorem tn_name : ∀ i, i < 14 → callV F_is_name [.str (tn i)] = .ok (.bl true) := by
  have h : ((List.range 14).all fun i => isT (callV F_is_name [.str (tn i)])) = true := by decide +kernel
  exact fun i hi => isT_eq (List.all_eq_true.mp h i (List.mem_range.mpr hi))
theorem tn_sz : ∀ i, i < 14 → (tn i).cps.size ≤ 8 := by decide +kernel
theorem tn_nms {n : Nat} (h1 : 1 ≤ n) (h2 : n ≤ 14) : Nms n tn := ⟨fun i j hi hj => tn_inj i j (by omega) (by omega), fun i hi => tn_fine i (by omega), fun i hi => tn_name i (by omega), h1, h2, fun i hi => tn_sz i (by omega)⟩
/-- a look at a few ties -/
def bdB (n : Nat) : Es → Bool
  | [] => true
  | p :: L => decide (p.1 < n) && decide (p.2 < n) && !decide (p.1 = p.2) && L.all (fun q => !decide (p = q) && !decide (p = (q.2, q.1))) && bdB n L
theorem bdB_ok {n : Nat} : ∀ {L : Es}, bdB n L = true → Bd n L
  | [], _ => .nil n
  | p :: L, h => by
    simp only [bdB, Bool.and_eq_true, decide_eq_true_eq, Bool.not_eq_true', decide_eq_false_iff_not, List.all_eq_true] at h
    obtain ⟨⟨⟨⟨h1, h2⟩, h3⟩, h4⟩, h5⟩ := h
    have ih := bdB_ok h5
    refine ⟨fun q hq => ?_, fun q hq => ?_, List.pairwise_cons.mpr ⟨fun q hq => h4 q hq, ih.pw⟩⟩
    · rcases List.mem_cons.mp hq with rfl | hq
      · exact ⟨h1, h2⟩
      · exact ih.w q hq
    · rcases List.mem_cons.mp hq with rfl | hq
      · exact h3
      · exact ih.irr q hq
def growB (n : Nat) (L : Es) (S : List Nat) : List Nat := (List.range n).filter fun v => decide (v ∈ S) || S.any fun u => decide ((u, v) ∈ L) || decide ((v, u) ∈ L)
def reachB (n : Nat) (L : Es) : Nat → List Nat
  | 0 => [0]
  | k + 1 => growB n L (reachB n L k)
theorem reachB_ok {n : Nat} {L : Es} : ∀ (m v : Nat), v ∈ reachB n L m → ∃ k, Wk L 0 k v
  | 0, v, h => by
    simp [reachB] at h
    subst h
    exact ⟨0, .nil⟩
  | m + 1, v, h => by
    unfold reachB growB at h
    rw [List.mem_filter] at h
    have h2 := h.2
    simp only [Bool.or_eq_true, decide_eq_true_eq, List.any_eq_true] at h2
    rcases h2 with h2 | ⟨u, hu, e⟩
    · exact reachB_ok m v h2
    · obtain ⟨k, w⟩ := reachB_ok m u hu
      exact ⟨k + 1, w.snoc e⟩
def hangB (n : Nat) (L : Es) : Bool := (List.range n).all fun v => decide (v ∈ reachB n L n)
theorem hangB_ok {n : Nat} {L : Es} (h : hangB n L = true) : Hang L n := fun v hv =>
  reachB_ok n v (of_decide_eq_true (List.all_eq_true.mp h v (List.mem_range.mpr hv)))
def knW (w : Nat) : Str := (["row", "round", "star", "all", "lots", "board", "cube"] : List Str).getD w default
def knN (w n : Nat) : Nat := if w = 4 then n + 2 else if w = 5 then 2 * n else if w = 6 then 8 else n
def knL (w n : Nat) : Es :=
  if w = 0 then (List.range (n - 1)).map fun k => (k, k + 1)
  else if w = 1 then (List.range n).map fun k => (k, (k + 1) % n)
  else if w = 2 then (List.range' 1 (n - 1)).map fun k => (0, k)
  else if w = 3 then (List.range n).flatMap fun k => (List.range k).map fun j => (j, k)
  else if w = 4 then (List.range (2 * n)).map fun k => (k % 2, 2 + k / 2)
  else if w = 5 then (List.range (2 * n)).flatMap fun k => (if k + 2 < 2 * n then [(k, k + 2)] else []) ++ (if k % 2 = 0 then [(k, k + 1)] else [])
  else (List.range 8).flatMap fun k => ([1, 2, 4].filter fun s => k / s % 2 == 0).map fun s => (k, k + s)
theorem kn_wb {w n : Nat} (hw : w < 7) (h1 : 3 ≤ n) (h2 : n < 7) : Wb (knN w n) tn (knL w n) := by
  have h : ((List.range 7).all fun w => (List.range 7).all fun n => decide (n < 3) || (decide (1 ≤ knN w n) && decide (knN w n ≤ 12) && decide ((knL w n).length ≤ 20) && bdB (knN w n) (knL w n) && hangB (knN w n) (knL w n))) = true := by decide +kernel
  have := List.all_eq_true.mp (List.all_eq_true.mp h w (List.mem_range.mpr hw)) n (List.mem_range.mpr h2)
  simp only [Bool.or_eq_true, Bool.and_eq_true, decide_eq_true_eq] at this
  rcases this with h | ⟨⟨⟨⟨a, b⟩, c⟩, d⟩, e⟩
  · omega
  · exact ⟨tn_nms a (by omega), bdB_ok d, by omega, hangB_ok e⟩
theorem kn_le {w n : Nat} (hw : w < 7) (h1 : 3 ≤ n) (h2 : n < 7) : knN w n ≤ 12 := by
  unfold knN
  split
  · omega
  · split
    · omega
    · split <;> omega
/-- a run's value, and what became of what was lent -/
def outOf : RS → Option (D × Ow)
  | .ok (.rt d) (.own 1 o :: _) => some (d, o)
  | _ => none
theorem outOf_ok {r : RS} {d : D} {o : Ow} (h : outOf r = some (d, o)) : ∃ rest, r = .ok (.rt d) (.own 1 o :: rest) := by
  unfold outOf at h
  split at h
  · cases h; exact ⟨_, rfl⟩
  · cases h
theorem from_list {o : Ow} (h : PhOk o) {xs : List D} (hx : xs ≠ []) (hl : xs.length < 1000000) : ∃ (r : Nat) (d : D) (o' : Ow), F__law_from [.own 1 o, .val (.lst xs)] = .ok (.rt d) [.own 1 o', .val (.lst xs)] ∧ xs[r]? = some d ∧ PhOk o' := by
  have hp : 0 < xs.length := List.length_pos_iff.mpr hx
  obtain ⟨r, o', e, hr, h'⟩ := drop1 h (top := xs.length) (by omega) (by omega)
  have hr' : r < xs.length := by omega
  refine ⟨r, xs[r], o', ?_, List.getElem?_eq_getElem hr', h'⟩
  refine (runF_rt (nl := 0) (m := m__law_from) (ρ := [.own 1 o, .val (.lst xs)]) (ρ' := [.own 1 o', .val (.lst xs)]) ?_).trans rfl
  show m__law_from [.own 1 o, .val (.lst xs)] = _
  unfold m__law_from
  simp -implicitDefEqProofs only [v_pVar', v_pVarQ', v_pVarR', k_v, k_vq, k_vr, k_oq, k_or, k_or2, k_vVal, k_vFr, k_par, k_set, k_aug, k_own, k_retF, k_ix, k_ix2, k_ixL, oR_s, k_app2, k_app, k_pop3, k_pop2, k_pop, k_apL2, k_apL1, k_apL, k_cal, k_calR, k_calO, k_ch1, k_ch2, k_lst, k_fldV, k_fldO, v_setF, v_pC, v_p1, v_p2, v_p3, v_aNil, v_aCons, v_pA, v_b1, v_asB, v_bAnd, v_bOr, v_bNot, v_pIf, v_pAndK, v_pOrK, v_liftE, v_e1, v_e2, v_bNil, v_bCons, v_eA, v_vNil, v_vVal, v_vFr, v_liftB, v_q1, v_qAnd, v_qOr, v_qNot, v_eIf, v_gVar, v_gTupD, v_gsNil, v_gsCons, v_pIxLL, v_gIx, v_gIx2, v_sNext, v_sNever, v_sRetN, v_sRet, v_sRetE, v_sRetF, v_sExpr, v_sExprE, v_sIf, v_sIfE, v_seq, v_asg, v_asgE, v_own, v_ownG, v_par, v_aug, v_putNil, v_putV, v_putF, v_iAdd, v_pSl, v_oNone, v_oSome, v_eApp, v_ePop, v_eAppLL, v_eCallO, v_callO, v_i1, v_pM1, v_pChain, v_pIndex, v_aLen, v_aApp, v_pFrz, v_pAO, v_gLst, v_frz0, v_frz0l, v_frzO, v_frz1, v_frzV, v_frzU, R.bind_ok, RE.bind_ok, RE.seq_ok, R.seq_ok, R.seqB_ok, RE.bindA_ok, RA.bind_ok, RA.bindE_ok, RV.bind_ok, RB.bind_ok, RB.bindE_ok, RB.seq_ok, RE.bindB_ok, upB_ok, up_ok, RS.then_nx, RS.then_rt, RS.then_rtO, RS.then_ct, RS.then_bk, o_eqI, o_neI, o_eqB, o_or1, o_or2, o_or3, o_and1, o_and2, o_and3, Int.cast_ofNat_Int, Int.reduceEq, Int.reduceLT, Int.reduceLE, Int.reduceAdd, Int.reduceSub, Int.reduceMul, Int.reduceNeg, o_add, o_sub, o_lt, o_le, o_gt, o_ge, o_int, o_abs, o_lenL, o_lenT, o_lenS, o_isN, o_isnN, n_non, n_int, n_str, n_bl, n_tup, n_lst, n_ins, o_mkT0, o_mkT1, o_mkT2, o_mkT3, o_mkL0, o_mkL1, o_mkL2, o_mkL3, o_maxD, o_minD, o_revT, o_revL, o_ixT0, o_ixT1, o_ixT2, o_isL, o_tupL, o_tupT, o_not, o_neg, ok_match, ok_match2, kt_int, kt_str, kt_bl, kt_tup, kt_lst, kt_non, kt_some, i_enumT, i_enumL, i_lst, i_tup, i_scr, List.getElem?_cons_zero, List.getElem?_cons_succ, List.set_cons_zero, List.set_cons_succ, List.length_cons, List.length_nil, List.length_set, List.map_cons, List.map_nil, List.cons_append, List.nil_append, List.append_nil, Option.bind_some, Option.map_some, Nat.reduceAdd, Nat.reduceLT, Nat.reduceSucc, Nat.zero_lt_succ, Nat.lt_add_left_iff_pos, eq_self, and_self, true_and, and_true, if_true_, if_false_, Int.toNat_natCast, ite_true, ite_false, Bool.not_true, Bool.not_false, Bool.false_eq_true, decide_true, decide_false, wpO_some, turn_nx, turn_ct, turn_bk, reduceCtorEq, Nat.succ_pos, Nat.succ_lt_succ_iff, e, v_e2, o_ixL (List.getElem?_eq_getElem hr')]
def knMenu : List D := [.str "row", .str "round", .str "star", .str "all", .str "lots", .str "board", .str "cube"]
theorem known_c {o : Ow} (ho : PhOk o) : ∃ (w n : Nat) (o' : Ow), F__law_known [.own 1 o] = .ok (.rt (.tup [.str (knW w), twD (knN w n) tn, tiD tn (knL w n)])) [.own 1 o'] ∧ w < 7 ∧ 3 ≤ n ∧ n < 7 ∧ PhOk o' := by
  suffices h : Wp (m__law_known [.own 1 o, .un, .un, .un, .un, .un, .un, .un]) fun r => ∃ w n o', outOf r = some (.tup [.str (knW w), twD (knN w n) tn, tiD tn (knL w n)], o') ∧ w < 7 ∧ 3 ≤ n ∧ n < 7 ∧ PhOk o' by
    obtain ⟨w, n, o', h1, h2⟩ := h
    obtain ⟨rest, h1⟩ := outOf_ok h1
    exact ⟨w, n, o', (runF_rt (nl := 7) (m := m__law_known) (ρ := [.own 1 o]) h1).trans rfl, h2⟩
  obtain ⟨w, d, o1, q1, hw, ho1⟩ := from_list ho (xs := knMenu) (by decide) (by decide)
  obtain ⟨k, o2, q2, hk, ho2⟩ := drop1 ho1 (top := 4) (by omega) (by omega)
  have hw7 : w < 7 := (List.getElem?_eq_some_iff.mp hw).1
  have hd : d = .str (knW w) := by
    have : ∀ w, w < 7 → knMenu[w]? = some (.str (knW w)) := by
      intro w hw
      have : w = 0 ∨ w = 1 ∨ w = 2 ∨ w = 3 ∨ w = 4 ∨ w = 5 ∨ w = 6 := by omega
      rcases this with rfl | rfl | rfl | rfl | rfl | rfl | rfl <;> rfl
    rw [this w hw7] at hw
    cases hw; rfl
  subst hd
  have hk4 : k < 4 := by omega
  unfold m__law_known
  rw [v_seq]
  have h1 : sPar [4, 5] (vVal (eCallO F__law_from 0 (bCons (liftE (p1 isL (pA mkL (aCons (pC (.str "row")) (aCons (pC (.str "round")) (aCons (pC (.str "star")) (aCons (pC (.str "all")) (aCons (pC (.str "lots")) (aCons (pC (.str "board")) (aCons (pC (.str "cube")) aNil)))))))))) bNil)) (vVal (e2 addD (liftE (pC (.int 3))) (eCallO F__law_drop 0 (bCons (liftE (pC (.int 4))) bNil))) vNil)) [.own 1 o, .un, .un, .un, .un, .un, .un, .un]
      = .ok .nx [.own 1 o2, .un, .un, .un, .val (.str (knW w)), .val (.int ((3 + k : Nat) : Int)), .un, .un] := by
    have hm : mkL [.str "row", .str "round", .str "star", .str "all", .str "lots", .str "board", .str "cube"] = .ok (.lst knMenu) := o_mkL (fits_of (by decide))
    have e : ((3 : Int) + (k : Nat)) = ((3 + k : Nat) : Int) := by omega
    simp -implicitDefEqProofs only [v_pVar', v_pVarQ', v_pVarR', k_v, k_vq, k_vr, k_oq, k_or, k_or2, k_vVal, k_vFr, k_par, k_set, k_aug, k_own, k_retF, k_ix, k_ix2, k_ixL, oR_s, k_app2, k_app, k_pop3, k_pop2, k_pop, k_apL2, k_apL1, k_apL, k_cal, k_calR, k_calO, k_ch1, k_ch2, k_lst, k_fldV, k_fldO, v_setF, v_pC, v_p1, v_p2, v_p3, v_aNil, v_aCons, v_pA, v_b1, v_asB, v_bAnd, v_bOr, v_bNot, v_pIf, v_pAndK, v_pOrK, v_liftE, v_e1, v_e2, v_bNil, v_bCons, v_eA, v_vNil, v_vVal, v_vFr, v_liftB, v_q1, v_qAnd, v_qOr, v_qNot, v_eIf, v_gVar, v_gTupD, v_gsNil, v_gsCons, v_pIxLL, v_gIx, v_gIx2, v_sNext, v_sNever, v_sRetN, v_sRet, v_sRetE, v_sRetF, v_sExpr, v_sExprE, v_sIf, v_sIfE, v_seq, v_asg, v_asgE, v_own, v_ownG, v_par, v_aug, v_putNil, v_putV, v_putF, v_iAdd, v_pSl, v_oNone, v_oSome, v_eApp, v_ePop, v_eAppLL, v_eCallO, v_callO, v_i1, v_pM1, v_pChain, v_pIndex, v_aLen, v_aApp, v_pFrz, v_pAO, v_gLst, v_frz0, v_frz0l, v_frzO, v_frz1, v_frzV, v_frzU, R.bind_ok, RE.bind_ok, RE.seq_ok, R.seq_ok, R.seqB_ok, RE.bindA_ok, RA.bind_ok, RA.bindE_ok, RV.bind_ok, RB.bind_ok, RB.bindE_ok, RB.seq_ok, RE.bindB_ok, upB_ok, up_ok, RS.then_nx, RS.then_rt, RS.then_rtO, RS.then_ct, RS.then_bk, o_eqI, o_neI, o_eqB, o_or1, o_or2, o_or3, o_and1, o_and2, o_and3, Int.cast_ofNat_Int, Int.reduceEq, Int.reduceLT, Int.reduceLE, Int.reduceAdd, Int.reduceSub, Int.reduceMul, Int.reduceNeg, o_add, o_sub, o_lt, o_le, o_gt, o_ge, o_int, o_abs, o_lenL, o_lenT, o_lenS, o_isN, o_isnN, n_non, n_int, n_str, n_bl, n_tup, n_lst, n_ins, o_mkT0, o_mkT1, o_mkT2, o_mkT3, o_mkL0, o_mkL1, o_mkL2, o_mkL3, o_maxD, o_minD, o_revT, o_revL, o_ixT0, o_ixT1, o_ixT2, o_isL, o_tupL, o_tupT, o_not, o_neg, ok_match, ok_match2, kt_int, kt_str, kt_bl, kt_tup, kt_lst, kt_non, kt_some, i_enumT, i_enumL, i_lst, i_tup, i_scr, List.getElem?_cons_zero, List.getElem?_cons_succ, List.set_cons_zero, List.set_cons_succ, List.length_cons, List.length_nil, List.length_set, List.map_cons, List.map_nil, List.cons_append, List.nil_append, List.append_nil, Option.bind_some, Option.map_some, Nat.reduceAdd, Nat.reduceLT, Nat.reduceSucc, Nat.zero_lt_succ, Nat.lt_add_left_iff_pos, eq_self, and_self, true_and, and_true, if_true_, if_false_, Int.toNat_natCast, ite_true, ite_false, Bool.not_true, Bool.not_false, Bool.false_eq_true, decide_true, decide_false, wpO_some, turn_nx, turn_ct, turn_bk, reduceCtorEq, Nat.succ_pos, Nat.succ_lt_succ_iff, hm, q1, q2, e]
  rw [h1, RS.then_nx]
  refine ⟨w, 3 + k, o2, ?_, hw7, by omega, by omega, ho2⟩
  clear q1 q2 h1 ho ho1 ho2 hk hw
  have c1 : w = 0 ∨ w = 1 ∨ w = 2 ∨ w = 3 ∨ w = 4 ∨ w = 5 ∨ w = 6 := by omega
  have c2 : k = 0 ∨ k = 1 ∨ k = 2 ∨ k = 3 := by omega
  rcases c1 with rfl | rfl | rfl | rfl | rfl | rfl | rfl <;> rcases c2 with rfl | rfl | rfl | rfl <;> kernel_rfl
end MA

set_option Elab.async false
set_option linter.all false
set_option maxRecDepth 100000
set_option maxHeartbeats 8000000
/-! Towns between. -/
namespace MA
open PySem PySem.Spec PyProof.Rows L2 He DL DM Gr
theorem isort_nat {xs ys : List Nat} (hp : ys.Perm xs) (hw : ys.Pairwise (· ≤ ·)) : isort (xs.map fun k : Nat => (k : Int)) = ys.map fun k : Nat => (k : Int) := by
  symm
  refine isort_uniq (hp.map _) ?_
  rw [List.pairwise_map]
  exact hw.imp fun h => by omega
theorem sort_nA {xs ys : List Nat} (hp : ys.Perm xs) (hw : ys.Pairwise (· ≤ ·)) : sortD (.lst (nA xs)) = .ok (.lst (nA ys)) := by
  have e : ∀ zs : List Nat, nA zs = (zs.map fun k : Nat => (k : Int)).map D.int := fun zs => by unfold nA; rw [List.map_map]; rfl
  unfold sortD
  rw [e, e]
  dsimp only
  rw [DL.ints_map]
  dsimp only
  rw [isort_nat hp hw]
theorem range_pw (n : Nat) (p : Nat → Bool) : ((List.range n).filter p).Pairwise (· ≤ ·) := (List.pairwise_lt_range.imp fun h => Nat.le_of_lt h).filter _
theorem nin_nat (xs : List Nat) (b : Nat) : ninD (.int (b : Nat)) (.lst (nA xs)) = .ok (.bl (!decide (b ∈ xs))) := by
  rw [o_ninL (sd_int _) (sd_lst (k := 0) fun x hx => by obtain ⟨z, _, rfl⟩ := List.mem_map.mp hx; exact sd_int _) (by omega) (by omega)]
  congr 3
  rw [Bool.eq_iff_iff, List.any_eq_true, decide_eq_true_eq]
  constructor
  · rintro ⟨z, hz, e⟩
    obtain ⟨k, hk, rfl⟩ := List.mem_map.mp hz
    have : (k : Int) == (b : Int) := e
    have : k = b := by have := beq_iff_eq.mp this; omega
    rwa [← this]
  · intro h
    exact ⟨.int b, List.mem_map.mpr ⟨b, h, rfl⟩, by show ((b : Int) == (b : Int)) = true; exact beq_self_eq_true _⟩
noncomputable def btw (n : Nat) (L : Es) (i j : Nat) : List Nat := (List.range n).filter fun k => decide (dst L i k + dst L k j = dst L i j)
theorem mem_btw {n : Nat} {L : Es} {i j k : Nat} : k ∈ btw n L i j ↔ k < n ∧ dst L i k + dst L k j = dst L i j := by
  unfold btw; rw [List.mem_filter, List.mem_range, decide_eq_true_eq]
theorem btw_nd (n : Nat) (L : Es) (i j : Nat) : (btw n L i j).Nodup := List.Pairwise.filter _ List.nodup_range
theorem btw_len (n : Nat) (L : Es) (i j : Nat) : (btw n L i j).length ≤ n := Nat.le_trans (List.length_filter_le _ _) (by rw [List.length_range]; exact Nat.le_refl _)
theorem len_distT {n : Nat} {L : Es} : lenD (.tup (distT n L)) = .ok (.int (n : Nat)) := by
  show R.ok (D.int ((distT n L).length : Nat)) = _
  unfold distT; rw [arr_len]
theorem distT_len {n : Nat} {L : Es} : (distT n L).length = n := by unfold distT; rw [arr_len]
theorem ix_dT {n : Nat} {L : Es} {i : Nat} (h : i < n) : ixD (.tup (distT n L)) (.int (i : Nat)) = .ok (.tup (arr n fun j => .int (dst L i j : Nat))) := ix_arrT h
theorem ix_dA {n : Nat} {L : Es} {i : Nat} (h : i < n) : ixD (.lst (distA n L)) (.int (i : Nat)) = .ok (.lst (arr n fun j => .int (dst L i j : Nat))) := ix_arrL h
theorem all_between_c {n : Nat} {L : Es} {i j : Nat} (hn : n ≤ 1000) (hi : i < n) (hj : j < n) : callV F_all_between [.tup (distT n L), .int (i : Nat), .int (j : Nat)] = .ok (.lst (nA (btw n L i j))) := by
  refine cv_rt ?_
  show Wp (m_all_between [.val (.tup (distT n L)), .val (.int (i : Nat)), .val (.int (j : Nat)), .un]) _
  unfold m_all_between
  rw [v_sRet]
  simp -implicitDefEqProofs only [v_p1]
  rw [pLc_filter (fun k : Nat => .int k) (fun k => decide (dst L i k + dst L k j = dst L i j)) (fun k : Nat => .int k) (List.range n) (v_range1 (n := n) (by simp -implicitDefEqProofs only [v_pVar', v_pVarQ', v_pVarR', k_v, k_vq, k_vr, k_oq, k_or, k_or2, k_vVal, k_vFr, k_par, k_set, k_aug, k_own, k_retF, k_ix, k_ix2, k_ixL, oR_s, k_app2, k_app, k_pop3, k_pop2, k_pop, k_apL2, k_apL1, k_apL, k_cal, k_calR, k_calO, k_ch1, k_ch2, k_lst, k_fldV, k_fldO, v_setF, v_pC, v_p1, v_p2, v_p3, v_aNil, v_aCons, v_pA, v_b1, v_asB, v_bAnd, v_bOr, v_bNot, v_pIf, v_pAndK, v_pOrK, v_liftE, v_e1, v_e2, v_bNil, v_bCons, v_eA, v_vNil, v_vVal, v_vFr, v_liftB, v_q1, v_qAnd, v_qOr, v_qNot, v_eIf, v_gVar, v_gTupD, v_gsNil, v_gsCons, v_pIxLL, v_gIx, v_gIx2, v_sNext, v_sNever, v_sRetN, v_sRet, v_sRetE, v_sRetF, v_sExpr, v_sExprE, v_sIf, v_sIfE, v_seq, v_asg, v_asgE, v_own, v_ownG, v_par, v_aug, v_putNil, v_putV, v_putF, v_iAdd, v_pSl, v_oNone, v_oSome, v_eApp, v_ePop, v_eAppLL, v_eCallO, v_callO, v_i1, v_pM1, v_pChain, v_pIndex, v_aLen, v_aApp, v_pFrz, v_pAO, v_gLst, v_frz0, v_frz0l, v_frzO, v_frz1, v_frzV, v_frzU, R.bind_ok, RE.bind_ok, RE.seq_ok, R.seq_ok, R.seqB_ok, RE.bindA_ok, RA.bind_ok, RA.bindE_ok, RV.bind_ok, RB.bind_ok, RB.bindE_ok, RB.seq_ok, RE.bindB_ok, upB_ok, up_ok, RS.then_nx, RS.then_rt, RS.then_rtO, RS.then_ct, RS.then_bk, o_eqI, o_neI, o_eqB, o_or1, o_or2, o_or3, o_and1, o_and2, o_and3, Int.cast_ofNat_Int, Int.reduceEq, Int.reduceLT, Int.reduceLE, Int.reduceAdd, Int.reduceSub, Int.reduceMul, Int.reduceNeg, o_add, o_sub, o_lt, o_le, o_gt, o_ge, o_int, o_abs, o_lenL, o_lenT, o_lenS, o_isN, o_isnN, n_non, n_int, n_str, n_bl, n_tup, n_lst, n_ins, o_mkT0, o_mkT1, o_mkT2, o_mkT3, o_mkL0, o_mkL1, o_mkL2, o_mkL3, o_maxD, o_minD, o_revT, o_revL, o_ixT0, o_ixT1, o_ixT2, o_isL, o_tupL, o_tupT, o_not, o_neg, ok_match, ok_match2, kt_int, kt_str, kt_bl, kt_tup, kt_lst, kt_non, kt_some, i_enumT, i_enumL, i_lst, i_tup, i_scr, List.getElem?_cons_zero, List.getElem?_cons_succ, List.set_cons_zero, List.set_cons_succ, List.length_cons, List.length_nil, List.length_set, List.map_cons, List.map_nil, List.cons_append, List.nil_append, List.append_nil, Option.bind_some, Option.map_some, Nat.reduceAdd, Nat.reduceLT, Nat.reduceSucc, Nat.zero_lt_succ, Nat.lt_add_left_iff_pos, eq_self, and_self, true_and, and_true, if_true_, if_false_, Int.toNat_natCast, ite_true, ite_false, Bool.not_true, Bool.not_false, Bool.false_eq_true, decide_true, decide_false, wpO_some, turn_nx, turn_ct, turn_bk, reduceCtorEq, Nat.succ_pos, Nat.succ_lt_succ_iff, distT_len]) (by omega))]
  · simp -implicitDefEqProofs only [v_pVar', v_pVarQ', v_pVarR', k_v, k_vq, k_vr, k_oq, k_or, k_or2, k_vVal, k_vFr, k_par, k_set, k_aug, k_own, k_retF, k_ix, k_ix2, k_ixL, oR_s, k_app2, k_app, k_pop3, k_pop2, k_pop, k_apL2, k_apL1, k_apL, k_cal, k_calR, k_calO, k_ch1, k_ch2, k_lst, k_fldV, k_fldO, v_setF, v_pC, v_p1, v_p2, v_p3, v_aNil, v_aCons, v_pA, v_b1, v_asB, v_bAnd, v_bOr, v_bNot, v_pIf, v_pAndK, v_pOrK, v_liftE, v_e1, v_e2, v_bNil, v_bCons, v_eA, v_vNil, v_vVal, v_vFr, v_liftB, v_q1, v_qAnd, v_qOr, v_qNot, v_eIf, v_gVar, v_gTupD, v_gsNil, v_gsCons, v_pIxLL, v_gIx, v_gIx2, v_sNext, v_sNever, v_sRetN, v_sRet, v_sRetE, v_sRetF, v_sExpr, v_sExprE, v_sIf, v_sIfE, v_seq, v_asg, v_asgE, v_own, v_ownG, v_par, v_aug, v_putNil, v_putV, v_putF, v_iAdd, v_pSl, v_oNone, v_oSome, v_eApp, v_ePop, v_eAppLL, v_eCallO, v_callO, v_i1, v_pM1, v_pChain, v_pIndex, v_aLen, v_aApp, v_pFrz, v_pAO, v_gLst, v_frz0, v_frz0l, v_frzO, v_frz1, v_frzV, v_frzU, R.bind_ok, RE.bind_ok, RE.seq_ok, R.seq_ok, R.seqB_ok, RE.bindA_ok, RA.bind_ok, RA.bindE_ok, RV.bind_ok, RB.bind_ok, RB.bindE_ok, RB.seq_ok, RE.bindB_ok, upB_ok, up_ok, RS.then_nx, RS.then_rt, RS.then_rtO, RS.then_ct, RS.then_bk, o_eqI, o_neI, o_eqB, o_or1, o_or2, o_or3, o_and1, o_and2, o_and3, Int.cast_ofNat_Int, Int.reduceEq, Int.reduceLT, Int.reduceLE, Int.reduceAdd, Int.reduceSub, Int.reduceMul, Int.reduceNeg, o_add, o_sub, o_lt, o_le, o_gt, o_ge, o_int, o_abs, o_lenL, o_lenT, o_lenS, o_isN, o_isnN, n_non, n_int, n_str, n_bl, n_tup, n_lst, n_ins, o_mkT0, o_mkT1, o_mkT2, o_mkT3, o_mkL0, o_mkL1, o_mkL2, o_mkL3, o_maxD, o_minD, o_revT, o_revL, o_ixT0, o_ixT1, o_ixT2, o_isL, o_tupL, o_tupT, o_not, o_neg, ok_match, ok_match2, kt_int, kt_str, kt_bl, kt_tup, kt_lst, kt_non, kt_some, i_enumT, i_enumL, i_lst, i_tup, i_scr, List.getElem?_cons_zero, List.getElem?_cons_succ, List.set_cons_zero, List.set_cons_succ, List.length_cons, List.length_nil, List.length_set, List.map_cons, List.map_nil, List.cons_append, List.nil_append, List.append_nil, Option.bind_some, Option.map_some, Nat.reduceAdd, Nat.reduceLT, Nat.reduceSucc, Nat.zero_lt_succ, Nat.lt_add_left_iff_pos, eq_self, and_self, true_and, and_true, if_true_, if_false_, Int.toNat_natCast, ite_true, ite_false, Bool.not_true, Bool.not_false, Bool.false_eq_true, decide_true, decide_false, wpO_some, turn_nx, turn_ct, turn_bk, reduceCtorEq, Nat.succ_pos, Nat.succ_lt_succ_iff]
    exact isRt_ok
  · intro k hk
    have hk' := List.mem_range.mp hk
    refine ⟨_, rfl, ?_, fun _ => rfl⟩
    have a1 := ix_arrT (g := fun j => D.int (dst L i j : Nat)) hk'
    have a2 := ix_arrT (g := fun j => D.int (dst L k j : Nat)) hj
    have a3 := ix_arrT (g := fun j => D.int (dst L i j : Nat)) hj
    have e : ((dst L i k : Nat) : Int) + (dst L k j : Nat) = (dst L i j : Nat) ↔ dst L i k + dst L k j = dst L i j := by omega
    simp -implicitDefEqProofs only [v_pVar', v_pVarQ', v_pVarR', k_v, k_vq, k_vr, k_oq, k_or, k_or2, k_vVal, k_vFr, k_par, k_set, k_aug, k_own, k_retF, k_ix, k_ix2, k_ixL, oR_s, k_app2, k_app, k_pop3, k_pop2, k_pop, k_apL2, k_apL1, k_apL, k_cal, k_calR, k_calO, k_ch1, k_ch2, k_lst, k_fldV, k_fldO, v_setF, v_pC, v_p1, v_p2, v_p3, v_aNil, v_aCons, v_pA, v_b1, v_asB, v_bAnd, v_bOr, v_bNot, v_pIf, v_pAndK, v_pOrK, v_liftE, v_e1, v_e2, v_bNil, v_bCons, v_eA, v_vNil, v_vVal, v_vFr, v_liftB, v_q1, v_qAnd, v_qOr, v_qNot, v_eIf, v_gVar, v_gTupD, v_gsNil, v_gsCons, v_pIxLL, v_gIx, v_gIx2, v_sNext, v_sNever, v_sRetN, v_sRet, v_sRetE, v_sRetF, v_sExpr, v_sExprE, v_sIf, v_sIfE, v_seq, v_asg, v_asgE, v_own, v_ownG, v_par, v_aug, v_putNil, v_putV, v_putF, v_iAdd, v_pSl, v_oNone, v_oSome, v_eApp, v_ePop, v_eAppLL, v_eCallO, v_callO, v_i1, v_pM1, v_pChain, v_pIndex, v_aLen, v_aApp, v_pFrz, v_pAO, v_gLst, v_frz0, v_frz0l, v_frzO, v_frz1, v_frzV, v_frzU, R.bind_ok, RE.bind_ok, RE.seq_ok, R.seq_ok, R.seqB_ok, RE.bindA_ok, RA.bind_ok, RA.bindE_ok, RV.bind_ok, RB.bind_ok, RB.bindE_ok, RB.seq_ok, RE.bindB_ok, upB_ok, up_ok, RS.then_nx, RS.then_rt, RS.then_rtO, RS.then_ct, RS.then_bk, o_eqI, o_neI, o_eqB, o_or1, o_or2, o_or3, o_and1, o_and2, o_and3, Int.cast_ofNat_Int, Int.reduceEq, Int.reduceLT, Int.reduceLE, Int.reduceAdd, Int.reduceSub, Int.reduceMul, Int.reduceNeg, o_add, o_sub, o_lt, o_le, o_gt, o_ge, o_int, o_abs, o_lenL, o_lenT, o_lenS, o_isN, o_isnN, n_non, n_int, n_str, n_bl, n_tup, n_lst, n_ins, o_mkT0, o_mkT1, o_mkT2, o_mkT3, o_mkL0, o_mkL1, o_mkL2, o_mkL3, o_maxD, o_minD, o_revT, o_revL, o_ixT0, o_ixT1, o_ixT2, o_isL, o_tupL, o_tupT, o_not, o_neg, ok_match, ok_match2, kt_int, kt_str, kt_bl, kt_tup, kt_lst, kt_non, kt_some, i_enumT, i_enumL, i_lst, i_tup, i_scr, List.getElem?_cons_zero, List.getElem?_cons_succ, List.set_cons_zero, List.set_cons_succ, List.length_cons, List.length_nil, List.length_set, List.map_cons, List.map_nil, List.cons_append, List.nil_append, List.append_nil, Option.bind_some, Option.map_some, Nat.reduceAdd, Nat.reduceLT, Nat.reduceSucc, Nat.zero_lt_succ, Nat.lt_add_left_iff_pos, eq_self, and_self, true_and, and_true, if_true_, if_false_, Int.toNat_natCast, ite_true, ite_false, Bool.not_true, Bool.not_false, Bool.false_eq_true, decide_true, decide_false, wpO_some, turn_nx, turn_ct, turn_bk, reduceCtorEq, Nat.succ_pos, Nat.succ_lt_succ_iff, wipeS, ix_dT hi, ix_dT hk', a1, a2, a3, e]
  · rw [List.length_range]; omega
section
variable {K : Fg} {n : Nat} {nm : Nat → Str} {L : Es}
theorem named_c {xs ys : List Nat} (hp : ys.Perm xs) (hw : ys.Pairwise (· ≤ ·)) (hn : ∀ k ∈ ys, k < n) (hl : ys.length ≤ 1000000) : callV (F_named K) [webD K n nm L, .lst (nA xs)] = .ok (.tup (ys.map fun k => .str (nm k))) := by
  refine cv_rt ?_
  show Wp (m_named K [.val (webD K n nm L), .val (.lst (nA xs)), .un]) _
  unfold m_named
  rw [v_sRet]
  simp -implicitDefEqProofs only [v_p1]
  rw [pLc_map (fun k : Nat => .int k) (fun k => .str (nm k)) ys (by simp -implicitDefEqProofs only [v_pVar', v_pVarQ', v_pVarR', k_v, k_vq, k_vr, k_oq, k_or, k_or2, k_vVal, k_vFr, k_par, k_set, k_aug, k_own, k_retF, k_ix, k_ix2, k_ixL, oR_s, k_app2, k_app, k_pop3, k_pop2, k_pop, k_apL2, k_apL1, k_apL, k_cal, k_calR, k_calO, k_ch1, k_ch2, k_lst, k_fldV, k_fldO, v_setF, v_pC, v_p1, v_p2, v_p3, v_aNil, v_aCons, v_pA, v_b1, v_asB, v_bAnd, v_bOr, v_bNot, v_pIf, v_pAndK, v_pOrK, v_liftE, v_e1, v_e2, v_bNil, v_bCons, v_eA, v_vNil, v_vVal, v_vFr, v_liftB, v_q1, v_qAnd, v_qOr, v_qNot, v_eIf, v_gVar, v_gTupD, v_gsNil, v_gsCons, v_pIxLL, v_gIx, v_gIx2, v_sNext, v_sNever, v_sRetN, v_sRet, v_sRetE, v_sRetF, v_sExpr, v_sExprE, v_sIf, v_sIfE, v_seq, v_asg, v_asgE, v_own, v_ownG, v_par, v_aug, v_putNil, v_putV, v_putF, v_iAdd, v_pSl, v_oNone, v_oSome, v_eApp, v_ePop, v_eAppLL, v_eCallO, v_callO, v_i1, v_pM1, v_pChain, v_pIndex, v_aLen, v_aApp, v_pFrz, v_pAO, v_gLst, v_frz0, v_frz0l, v_frzO, v_frz1, v_frzV, v_frzU, R.bind_ok, RE.bind_ok, RE.seq_ok, R.seq_ok, R.seqB_ok, RE.bindA_ok, RA.bind_ok, RA.bindE_ok, RV.bind_ok, RB.bind_ok, RB.bindE_ok, RB.seq_ok, RE.bindB_ok, upB_ok, up_ok, RS.then_nx, RS.then_rt, RS.then_rtO, RS.then_ct, RS.then_bk, o_eqI, o_neI, o_eqB, o_or1, o_or2, o_or3, o_and1, o_and2, o_and3, Int.cast_ofNat_Int, Int.reduceEq, Int.reduceLT, Int.reduceLE, Int.reduceAdd, Int.reduceSub, Int.reduceMul, Int.reduceNeg, o_add, o_sub, o_lt, o_le, o_gt, o_ge, o_int, o_abs, o_lenL, o_lenT, o_lenS, o_isN, o_isnN, n_non, n_int, n_str, n_bl, n_tup, n_lst, n_ins, o_mkT0, o_mkT1, o_mkT2, o_mkT3, o_mkL0, o_mkL1, o_mkL2, o_mkL3, o_maxD, o_minD, o_revT, o_revL, o_ixT0, o_ixT1, o_ixT2, o_isL, o_tupL, o_tupT, o_not, o_neg, ok_match, ok_match2, kt_int, kt_str, kt_bl, kt_tup, kt_lst, kt_non, kt_some, i_enumT, i_enumL, i_lst, i_tup, i_scr, List.getElem?_cons_zero, List.getElem?_cons_succ, List.set_cons_zero, List.set_cons_succ, List.length_cons, List.length_nil, List.length_set, List.map_cons, List.map_nil, List.cons_append, List.nil_append, List.append_nil, Option.bind_some, Option.map_some, Nat.reduceAdd, Nat.reduceLT, Nat.reduceSucc, Nat.zero_lt_succ, Nat.lt_add_left_iff_pos, eq_self, and_self, true_and, and_true, if_true_, if_false_, Int.toNat_natCast, ite_true, ite_false, Bool.not_true, Bool.not_false, Bool.false_eq_true, decide_true, decide_false, wpO_some, turn_nx, turn_ct, turn_bk, reduceCtorEq, Nat.succ_pos, Nat.succ_lt_succ_iff, sort_nA hp hw]; rfl)]
  · simp -implicitDefEqProofs only [v_pVar', v_pVarQ', v_pVarR', k_v, k_vq, k_vr, k_oq, k_or, k_or2, k_vVal, k_vFr, k_par, k_set, k_aug, k_own, k_retF, k_ix, k_ix2, k_ixL, oR_s, k_app2, k_app, k_pop3, k_pop2, k_pop, k_apL2, k_apL1, k_apL, k_cal, k_calR, k_calO, k_ch1, k_ch2, k_lst, k_fldV, k_fldO, v_setF, v_pC, v_p1, v_p2, v_p3, v_aNil, v_aCons, v_pA, v_b1, v_asB, v_bAnd, v_bOr, v_bNot, v_pIf, v_pAndK, v_pOrK, v_liftE, v_e1, v_e2, v_bNil, v_bCons, v_eA, v_vNil, v_vVal, v_vFr, v_liftB, v_q1, v_qAnd, v_qOr, v_qNot, v_eIf, v_gVar, v_gTupD, v_gsNil, v_gsCons, v_pIxLL, v_gIx, v_gIx2, v_sNext, v_sNever, v_sRetN, v_sRet, v_sRetE, v_sRetF, v_sExpr, v_sExprE, v_sIf, v_sIfE, v_seq, v_asg, v_asgE, v_own, v_ownG, v_par, v_aug, v_putNil, v_putV, v_putF, v_iAdd, v_pSl, v_oNone, v_oSome, v_eApp, v_ePop, v_eAppLL, v_eCallO, v_callO, v_i1, v_pM1, v_pChain, v_pIndex, v_aLen, v_aApp, v_pFrz, v_pAO, v_gLst, v_frz0, v_frz0l, v_frzO, v_frz1, v_frzV, v_frzU, R.bind_ok, RE.bind_ok, RE.seq_ok, R.seq_ok, R.seqB_ok, RE.bindA_ok, RA.bind_ok, RA.bindE_ok, RV.bind_ok, RB.bind_ok, RB.bindE_ok, RB.seq_ok, RE.bindB_ok, upB_ok, up_ok, RS.then_nx, RS.then_rt, RS.then_rtO, RS.then_ct, RS.then_bk, o_eqI, o_neI, o_eqB, o_or1, o_or2, o_or3, o_and1, o_and2, o_and3, Int.cast_ofNat_Int, Int.reduceEq, Int.reduceLT, Int.reduceLE, Int.reduceAdd, Int.reduceSub, Int.reduceMul, Int.reduceNeg, o_add, o_sub, o_lt, o_le, o_gt, o_ge, o_int, o_abs, o_lenL, o_lenT, o_lenS, o_isN, o_isnN, n_non, n_int, n_str, n_bl, n_tup, n_lst, n_ins, o_mkT0, o_mkT1, o_mkT2, o_mkT3, o_mkL0, o_mkL1, o_mkL2, o_mkL3, o_maxD, o_minD, o_revT, o_revL, o_ixT0, o_ixT1, o_ixT2, o_isL, o_tupL, o_tupT, o_not, o_neg, ok_match, ok_match2, kt_int, kt_str, kt_bl, kt_tup, kt_lst, kt_non, kt_some, i_enumT, i_enumL, i_lst, i_tup, i_scr, List.getElem?_cons_zero, List.getElem?_cons_succ, List.set_cons_zero, List.set_cons_succ, List.length_cons, List.length_nil, List.length_set, List.map_cons, List.map_nil, List.cons_append, List.nil_append, List.append_nil, Option.bind_some, Option.map_some, Nat.reduceAdd, Nat.reduceLT, Nat.reduceSucc, Nat.zero_lt_succ, Nat.lt_add_left_iff_pos, eq_self, and_self, true_and, and_true, if_true_, if_false_, Int.toNat_natCast, ite_true, ite_false, Bool.not_true, Bool.not_false, Bool.false_eq_true, decide_true, decide_false, wpO_some, turn_nx, turn_ct, turn_bk, reduceCtorEq, Nat.succ_pos, Nat.succ_lt_succ_iff]
    exact isRt_ok
  · intro k hk
    refine ⟨_, rfl, rfl, ?_⟩
    simp -implicitDefEqProofs only [v_pVar', v_pVarQ', v_pVarR', k_v, k_vq, k_vr, k_oq, k_or, k_or2, k_vVal, k_vFr, k_par, k_set, k_aug, k_own, k_retF, k_ix, k_ix2, k_ixL, oR_s, k_app2, k_app, k_pop3, k_pop2, k_pop, k_apL2, k_apL1, k_apL, k_cal, k_calR, k_calO, k_ch1, k_ch2, k_lst, k_fldV, k_fldO, v_setF, v_pC, v_p1, v_p2, v_p3, v_aNil, v_aCons, v_pA, v_b1, v_asB, v_bAnd, v_bOr, v_bNot, v_pIf, v_pAndK, v_pOrK, v_liftE, v_e1, v_e2, v_bNil, v_bCons, v_eA, v_vNil, v_vVal, v_vFr, v_liftB, v_q1, v_qAnd, v_qOr, v_qNot, v_eIf, v_gVar, v_gTupD, v_gsNil, v_gsCons, v_pIxLL, v_gIx, v_gIx2, v_sNext, v_sNever, v_sRetN, v_sRet, v_sRetE, v_sRetF, v_sExpr, v_sExprE, v_sIf, v_sIfE, v_seq, v_asg, v_asgE, v_own, v_ownG, v_par, v_aug, v_putNil, v_putV, v_putF, v_iAdd, v_pSl, v_oNone, v_oSome, v_eApp, v_ePop, v_eAppLL, v_eCallO, v_callO, v_i1, v_pM1, v_pChain, v_pIndex, v_aLen, v_aApp, v_pFrz, v_pAO, v_gLst, v_frz0, v_frz0l, v_frzO, v_frz1, v_frzV, v_frzU, R.bind_ok, RE.bind_ok, RE.seq_ok, R.seq_ok, R.seqB_ok, RE.bindA_ok, RA.bind_ok, RA.bindE_ok, RV.bind_ok, RB.bind_ok, RB.bindE_ok, RB.seq_ok, RE.bindB_ok, upB_ok, up_ok, RS.then_nx, RS.then_rt, RS.then_rtO, RS.then_ct, RS.then_bk, o_eqI, o_neI, o_eqB, o_or1, o_or2, o_or3, o_and1, o_and2, o_and3, Int.cast_ofNat_Int, Int.reduceEq, Int.reduceLT, Int.reduceLE, Int.reduceAdd, Int.reduceSub, Int.reduceMul, Int.reduceNeg, o_add, o_sub, o_lt, o_le, o_gt, o_ge, o_int, o_abs, o_lenL, o_lenT, o_lenS, o_isN, o_isnN, n_non, n_int, n_str, n_bl, n_tup, n_lst, n_ins, o_mkT0, o_mkT1, o_mkT2, o_mkT3, o_mkL0, o_mkL1, o_mkL2, o_mkL3, o_maxD, o_minD, o_revT, o_revL, o_ixT0, o_ixT1, o_ixT2, o_isL, o_tupL, o_tupT, o_not, o_neg, ok_match, ok_match2, kt_int, kt_str, kt_bl, kt_tup, kt_lst, kt_non, kt_some, i_enumT, i_enumL, i_lst, i_tup, i_scr, List.getElem?_cons_zero, List.getElem?_cons_succ, List.set_cons_zero, List.set_cons_succ, List.length_cons, List.length_nil, List.length_set, List.map_cons, List.map_nil, List.cons_append, List.nil_append, List.append_nil, Option.bind_some, Option.map_some, Nat.reduceAdd, Nat.reduceLT, Nat.reduceSucc, Nat.zero_lt_succ, Nat.lt_add_left_iff_pos, eq_self, and_self, true_and, and_true, if_true_, if_false_, Int.toNat_natCast, ite_true, ite_false, Bool.not_true, Bool.not_false, Bool.false_eq_true, decide_true, decide_false, wpO_some, turn_nx, turn_ct, turn_bk, reduceCtorEq, Nat.succ_pos, Nat.succ_lt_succ_iff, wipeS, web_towns, ix_tw (nm := nm) (hn k hk)]
  · exact hl
theorem between_c (N : Nms n nm) (hk : KW K) {i j : Nat} (hi : i < n) (hj : j < n) : callV (F_between K) [webD K n nm L, .str (nm i), .str (nm j)] = .ok (.tup ((btw n L i j).map fun k => .str (nm k))) := by
  refine cv_rt ?_
  have hn : n ≤ 1000 := by have := N.hi; omega
  have a1 := named_c (K := K) (nm := nm) (L := L) (List.Perm.refl (btw n L i j)) (range_pw n _) (fun k h => (mem_btw.mp h).1) (by have := btw_len n L i j; omega)
  show Wp (m_between K [.val (webD K n nm L), .val (.str (nm i)), .val (.str (nm j)), .un, .un]) _
  unfold m_between
  simp -implicitDefEqProofs only [v_pVar', v_pVarQ', v_pVarR', k_v, k_vq, k_vr, k_oq, k_or, k_or2, k_vVal, k_vFr, k_par, k_set, k_aug, k_own, k_retF, k_ix, k_ix2, k_ixL, oR_s, k_app2, k_app, k_pop3, k_pop2, k_pop, k_apL2, k_apL1, k_apL, k_cal, k_calR, k_calO, k_ch1, k_ch2, k_lst, k_fldV, k_fldO, v_setF, v_pC, v_p1, v_p2, v_p3, v_aNil, v_aCons, v_pA, v_b1, v_asB, v_bAnd, v_bOr, v_bNot, v_pIf, v_pAndK, v_pOrK, v_liftE, v_e1, v_e2, v_bNil, v_bCons, v_eA, v_vNil, v_vVal, v_vFr, v_liftB, v_q1, v_qAnd, v_qOr, v_qNot, v_eIf, v_gVar, v_gTupD, v_gsNil, v_gsCons, v_pIxLL, v_gIx, v_gIx2, v_sNext, v_sNever, v_sRetN, v_sRet, v_sRetE, v_sRetF, v_sExpr, v_sExprE, v_sIf, v_sIfE, v_seq, v_asg, v_asgE, v_own, v_ownG, v_par, v_aug, v_putNil, v_putV, v_putF, v_iAdd, v_pSl, v_oNone, v_oSome, v_eApp, v_ePop, v_eAppLL, v_eCallO, v_callO, v_i1, v_pM1, v_pChain, v_pIndex, v_aLen, v_aApp, v_pFrz, v_pAO, v_gLst, v_frz0, v_frz0l, v_frzO, v_frz1, v_frzV, v_frzU, R.bind_ok, RE.bind_ok, RE.seq_ok, R.seq_ok, R.seqB_ok, RE.bindA_ok, RA.bind_ok, RA.bindE_ok, RV.bind_ok, RB.bind_ok, RB.bindE_ok, RB.seq_ok, RE.bindB_ok, upB_ok, up_ok, RS.then_nx, RS.then_rt, RS.then_rtO, RS.then_ct, RS.then_bk, o_eqI, o_neI, o_eqB, o_or1, o_or2, o_or3, o_and1, o_and2, o_and3, Int.cast_ofNat_Int, Int.reduceEq, Int.reduceLT, Int.reduceLE, Int.reduceAdd, Int.reduceSub, Int.reduceMul, Int.reduceNeg, o_add, o_sub, o_lt, o_le, o_gt, o_ge, o_int, o_abs, o_lenL, o_lenT, o_lenS, o_isN, o_isnN, n_non, n_int, n_str, n_bl, n_tup, n_lst, n_ins, o_mkT0, o_mkT1, o_mkT2, o_mkT3, o_mkL0, o_mkL1, o_mkL2, o_mkL3, o_maxD, o_minD, o_revT, o_revL, o_ixT0, o_ixT1, o_ixT2, o_isL, o_tupL, o_tupT, o_not, o_neg, ok_match, ok_match2, kt_int, kt_str, kt_bl, kt_tup, kt_lst, kt_non, kt_some, i_enumT, i_enumL, i_lst, i_tup, i_scr, List.getElem?_cons_zero, List.getElem?_cons_succ, List.set_cons_zero, List.set_cons_succ, List.length_cons, List.length_nil, List.length_set, List.map_cons, List.map_nil, List.cons_append, List.nil_append, List.append_nil, Option.bind_some, Option.map_some, Nat.reduceAdd, Nat.reduceLT, Nat.reduceSucc, Nat.zero_lt_succ, Nat.lt_add_left_iff_pos, eq_self, and_self, true_and, and_true, if_true_, if_false_, Int.toNat_natCast, ite_true, ite_false, Bool.not_true, Bool.not_false, Bool.false_eq_true, decide_true, decide_false, wpO_some, turn_nx, turn_ct, turn_bk, reduceCtorEq, Nat.succ_pos, Nat.succ_lt_succ_iff, two_places_c N hk hi hj, web_far hn, all_between_c hn hi hj, a1]
  exact isRt_ok
end
/-! ### the law's own look -/
def both (L : Es) : Es := L ++ L.map fun p => (p.2, p.1)
theorem mem_both {L : Es} {a b : Nat} : (a, b) ∈ both L ↔ Adj L a b := by
  unfold both Adj
  rw [List.mem_append, List.mem_map]
  constructor
  · rintro (h | ⟨⟨x, y⟩, h, e⟩)
    · exact .inl h
    · simp at e; obtain ⟨rfl, rfl⟩ := e; exact .inr h
  · rintro (h | h)
    · exact .inl h
    · exact .inr ⟨_, h, rfl⟩
theorem add_tup {a b : List D} (h : a.length + b.length ≤ 1000000) : addD (.tup a) (.tup b) = .ok (.tup (a ++ b)) := if_pos (by rw [sizeLine_eq]; omega)
theorem add_lst {a b : List D} (h : a.length + b.length ≤ 1000000) : addD (.lst a) (.lst b) = .ok (.lst (a ++ b)) := if_pos (by rw [sizeLine_eq]; omega)
/-- ties, and turned round -/
theorem both_c {nm : Nat → Str} {L : Es} (hl : L.length ≤ 1000) {i v : Nat} {ρ : List Sl} (h1 : pVar i ρ = .ok (tiD nm L)) (h2 : v < ρ.length) :
    p2 addD (pVar i) (p1 tupD (p1 isL (pLc (i1 itemsD (pVar i)) [v] (gVar v) tYes' (p1 revD (pVar v))))) ρ = .ok (.tup (tiA nm (both L))) := by
  have hv : v < (wipeS ρ [v]).length := by show v < (ρ.set v .un).length; rw [List.length_set]; exact h2
  have e1 : pLc (i1 itemsD (pVar i)) [v] (gVar v) tYes' (p1 revD (pVar v)) ρ = .ok (.lst (L.map fun p => tieD nm (p.2, p.1))) := by
    refine pLc_map (tieD nm) _ L ?_ (fun p hp => ⟨(wipeS ρ [v]).set v (.val (tieD nm p)), if_pos hv, rfl, ?_⟩) (by omega)
    · unfold i1; rw [h1]; rfl
    · unfold p1
      have : pVar v ((wipeS ρ [v]).set v (.val (tieD nm p))) = .ok (tieD nm p) := by
        unfold pVar
        rw [List.getElem?_set_self hv]
      rw [this]; rfl
  rw [v_p2, h1, R.bind_ok, v_p1, v_p1, e1, R.bind_ok, o_isL, R.bind_ok, o_tupL, R.bind_ok]
  unfold tiD
  rw [add_tup (by rw [tiA_len, List.length_map]; omega)]
  unfold tiA both
  rw [List.map_append, List.map_map]; rfl
theorem nd_len {xs : List Nat} {n : Nat} (nd : xs.Nodup) (h : ∀ v ∈ xs, v < n) : xs.length ≤ n := by
  have := nodup_le xs (List.range n) nd fun v hv => List.mem_range.mpr (h v hv)
  rwa [List.length_range] at this
theorem nd_push {xs : List Nat} {v : Nat} (nd : xs.Nodup) (h : v ∉ xs) : (xs ++ [v]).Nodup := by
  rw [List.nodup_append]
  exact ⟨nd, by simp, fun x hx y hy => by simp at hy; subst hy; exact fun z => h (z ▸ hx)⟩
theorem on_ways_c {n : Nat} {nm : Nat → Str} {L : Es} (W : Wb n nm L) {i j : Nat} (hi : i < n) (hj : j < n) : callV F__law_on_ways [twD n nm, tiD nm L, .lst (distA n L), .int (i : Nat), .int (j : Nat)] = .ok (.lst (nA (btw n L i j))) := by
  refine cv_rt ?_
  have N := W.N
  have hhi := N.hi
  have hlen := W.len
  have hD := dst_small W hi hj
  have dd : ∀ {u v}, u < n → v < n → Dist L u v (dst L u v) := fun hu hv => W.H.dst hu hv
  show Wp (m__law_on_ways [.val (twD n nm), .val (tiD nm L), .val (.lst (distA n L)), .val (.int (i : Nat)), .val (.int (j : Nat)), .un, .un, .un, .un, .un, .un, .un, .un]) _
  unfold m__law_on_ways
  simp -implicitDefEqProofs only [v_pVar', v_pVarQ', v_pVarR', k_v, k_vq, k_vr, k_oq, k_or, k_or2, k_vVal, k_vFr, k_par, k_set, k_aug, k_own, k_retF, k_ix, k_ix2, k_ixL, oR_s, k_app2, k_app, k_pop3, k_pop2, k_pop, k_apL2, k_apL1, k_apL, k_cal, k_calR, k_calO, k_ch1, k_ch2, k_lst, k_fldV, k_fldO, v_setF, v_pC, v_p1, v_p2, v_p3, v_aNil, v_aCons, v_pA, v_b1, v_asB, v_bAnd, v_bOr, v_bNot, v_pIf, v_pAndK, v_pOrK, v_liftE, v_e1, v_e2, v_bNil, v_bCons, v_eA, v_vNil, v_vVal, v_vFr, v_liftB, v_q1, v_qAnd, v_qOr, v_qNot, v_eIf, v_gVar, v_gTupD, v_gsNil, v_gsCons, v_pIxLL, v_gIx, v_gIx2, v_sNext, v_sNever, v_sRetN, v_sRet, v_sRetE, v_sRetF, v_sExpr, v_sExprE, v_sIf, v_sIfE, v_seq, v_asg, v_asgE, v_own, v_ownG, v_par, v_aug, v_putNil, v_putV, v_putF, v_iAdd, v_pSl, v_oNone, v_oSome, v_eApp, v_ePop, v_eAppLL, v_eCallO, v_callO, v_i1, v_pM1, v_pChain, v_pIndex, v_aLen, v_aApp, v_pFrz, v_pAO, v_gLst, v_frz0, v_frz0l, v_frzO, v_frz1, v_frzV, v_frzU, R.bind_ok, RE.bind_ok, RE.seq_ok, R.seq_ok, R.seqB_ok, RE.bindA_ok, RA.bind_ok, RA.bindE_ok, RV.bind_ok, RB.bind_ok, RB.bindE_ok, RB.seq_ok, RE.bindB_ok, upB_ok, up_ok, RS.then_nx, RS.then_rt, RS.then_rtO, RS.then_ct, RS.then_bk, o_eqI, o_neI, o_eqB, o_or1, o_or2, o_or3, o_and1, o_and2, o_and3, Int.cast_ofNat_Int, Int.reduceEq, Int.reduceLT, Int.reduceLE, Int.reduceAdd, Int.reduceSub, Int.reduceMul, Int.reduceNeg, o_add, o_sub, o_lt, o_le, o_gt, o_ge, o_int, o_abs, o_lenL, o_lenT, o_lenS, o_isN, o_isnN, n_non, n_int, n_str, n_bl, n_tup, n_lst, n_ins, o_mkT0, o_mkT1, o_mkT2, o_mkT3, o_mkL0, o_mkL1, o_mkL2, o_mkL3, o_maxD, o_minD, o_revT, o_revL, o_ixT0, o_ixT1, o_ixT2, o_isL, o_tupL, o_tupT, o_not, o_neg, ok_match, ok_match2, kt_int, kt_str, kt_bl, kt_tup, kt_lst, kt_non, kt_some, i_enumT, i_enumL, i_lst, i_tup, i_scr, List.getElem?_cons_zero, List.getElem?_cons_succ, List.set_cons_zero, List.set_cons_succ, List.length_cons, List.length_nil, List.length_set, List.map_cons, List.map_nil, List.cons_append, List.nil_append, List.append_nil, Option.bind_some, Option.map_some, Nat.reduceAdd, Nat.reduceLT, Nat.reduceSucc, Nat.zero_lt_succ, Nat.lt_add_left_iff_pos, eq_self, and_self, true_and, and_true, if_true_, if_false_, Int.toNat_natCast, ite_true, ite_false, Bool.not_true, Bool.not_false, Bool.false_eq_true, decide_true, decide_false, wpO_some, turn_nx, turn_ct, turn_bk, reduceCtorEq, Nat.succ_pos, Nat.succ_lt_succ_iff]
  have aD := ix_arrL (g := fun j => D.int (dst L i j : Nat)) hj
  refine wp_range (fun s ρ => ∃ row seen s5 s8 s9 s10 s11 s12, row.Nodup ∧ (∀ v, v ∈ row ↔ v < n ∧ dst L i v = s ∧ dst L v j + s = dst L i j) ∧ seen.Nodup ∧ (∀ v, v ∈ seen ↔ v < n ∧ dst L i v ≤ s ∧ dst L i v + dst L v j = dst L i j) ∧
    ρ = [.val (twD n nm), .val (tiD nm L), .val (.lst (distA n L)), .val (.int (i : Nat)), .val (.int (j : Nat)), s5, .val (.lst (nA row)), .val (.lst (nA seen)), s8, s9, s10, s11, s12]) (dst L i j) (enc := fun k : Nat => .int k) ?_ ?_ ?_ ?_
  · exact v_range1 (by simp -implicitDefEqProofs only [v_pVar', v_pVarQ', v_pVarR', k_v, k_vq, k_vr, k_oq, k_or, k_or2, k_vVal, k_vFr, k_par, k_set, k_aug, k_own, k_retF, k_ix, k_ix2, k_ixL, oR_s, k_app2, k_app, k_pop3, k_pop2, k_pop, k_apL2, k_apL1, k_apL, k_cal, k_calR, k_calO, k_ch1, k_ch2, k_lst, k_fldV, k_fldO, v_setF, v_pC, v_p1, v_p2, v_p3, v_aNil, v_aCons, v_pA, v_b1, v_asB, v_bAnd, v_bOr, v_bNot, v_pIf, v_pAndK, v_pOrK, v_liftE, v_e1, v_e2, v_bNil, v_bCons, v_eA, v_vNil, v_vVal, v_vFr, v_liftB, v_q1, v_qAnd, v_qOr, v_qNot, v_eIf, v_gVar, v_gTupD, v_gsNil, v_gsCons, v_pIxLL, v_gIx, v_gIx2, v_sNext, v_sNever, v_sRetN, v_sRet, v_sRetE, v_sRetF, v_sExpr, v_sExprE, v_sIf, v_sIfE, v_seq, v_asg, v_asgE, v_own, v_ownG, v_par, v_aug, v_putNil, v_putV, v_putF, v_iAdd, v_pSl, v_oNone, v_oSome, v_eApp, v_ePop, v_eAppLL, v_eCallO, v_callO, v_i1, v_pM1, v_pChain, v_pIndex, v_aLen, v_aApp, v_pFrz, v_pAO, v_gLst, v_frz0, v_frz0l, v_frzO, v_frz1, v_frzV, v_frzU, R.bind_ok, RE.bind_ok, RE.seq_ok, R.seq_ok, R.seqB_ok, RE.bindA_ok, RA.bind_ok, RA.bindE_ok, RV.bind_ok, RB.bind_ok, RB.bindE_ok, RB.seq_ok, RE.bindB_ok, upB_ok, up_ok, RS.then_nx, RS.then_rt, RS.then_rtO, RS.then_ct, RS.then_bk, o_eqI, o_neI, o_eqB, o_or1, o_or2, o_or3, o_and1, o_and2, o_and3, Int.cast_ofNat_Int, Int.reduceEq, Int.reduceLT, Int.reduceLE, Int.reduceAdd, Int.reduceSub, Int.reduceMul, Int.reduceNeg, o_add, o_sub, o_lt, o_le, o_gt, o_ge, o_int, o_abs, o_lenL, o_lenT, o_lenS, o_isN, o_isnN, n_non, n_int, n_str, n_bl, n_tup, n_lst, n_ins, o_mkT0, o_mkT1, o_mkT2, o_mkT3, o_mkL0, o_mkL1, o_mkL2, o_mkL3, o_maxD, o_minD, o_revT, o_revL, o_ixT0, o_ixT1, o_ixT2, o_isL, o_tupL, o_tupT, o_not, o_neg, ok_match, ok_match2, kt_int, kt_str, kt_bl, kt_tup, kt_lst, kt_non, kt_some, i_enumT, i_enumL, i_lst, i_tup, i_scr, List.getElem?_cons_zero, List.getElem?_cons_succ, List.set_cons_zero, List.set_cons_succ, List.length_cons, List.length_nil, List.length_set, List.map_cons, List.map_nil, List.cons_append, List.nil_append, List.append_nil, Option.bind_some, Option.map_some, Nat.reduceAdd, Nat.reduceLT, Nat.reduceSucc, Nat.zero_lt_succ, Nat.lt_add_left_iff_pos, eq_self, and_self, true_and, and_true, if_true_, if_false_, Int.toNat_natCast, ite_true, ite_false, Bool.not_true, Bool.not_false, Bool.false_eq_true, decide_true, decide_false, wpO_some, turn_nx, turn_ct, turn_bk, reduceCtorEq, Nat.succ_pos, Nat.succ_lt_succ_iff, ix_dA hi, aD]) (by omega)
  · refine ⟨[i], [i], _, _, _, _, _, _, by simp, fun v => ?_, by simp, fun v => ?_, rfl⟩
    · simp only [List.mem_singleton]
      constructor
      · rintro rfl; exact ⟨hi, dst_self _, by omega⟩
      · rintro ⟨h1, h2, _⟩
        have := dd hi h1
        rw [h2] at this
        exact this.zero.symm
    · simp only [List.mem_singleton]
      constructor
      · rintro rfl; rw [dst_self]; exact ⟨hi, by omega, by omega⟩
      · rintro ⟨h1, h2, _⟩
        have := dd hi h1
        rw [show dst L i v = 0 by omega] at this
        exact this.zero.symm
  · rintro s _ hs ⟨row, seen, s5, s8, s9, s10, s11, s12, ndr, hr, nds, hsn, rfl⟩
    simp -implicitDefEqProofs only [v_pVar', v_pVarQ', v_pVarR', k_v, k_vq, k_vr, k_oq, k_or, k_or2, k_vVal, k_vFr, k_par, k_set, k_aug, k_own, k_retF, k_ix, k_ix2, k_ixL, oR_s, k_app2, k_app, k_pop3, k_pop2, k_pop, k_apL2, k_apL1, k_apL, k_cal, k_calR, k_calO, k_ch1, k_ch2, k_lst, k_fldV, k_fldO, v_setF, v_pC, v_p1, v_p2, v_p3, v_aNil, v_aCons, v_pA, v_b1, v_asB, v_bAnd, v_bOr, v_bNot, v_pIf, v_pAndK, v_pOrK, v_liftE, v_e1, v_e2, v_bNil, v_bCons, v_eA, v_vNil, v_vVal, v_vFr, v_liftB, v_q1, v_qAnd, v_qOr, v_qNot, v_eIf, v_gVar, v_gTupD, v_gsNil, v_gsCons, v_pIxLL, v_gIx, v_gIx2, v_sNext, v_sNever, v_sRetN, v_sRet, v_sRetE, v_sRetF, v_sExpr, v_sExprE, v_sIf, v_sIfE, v_seq, v_asg, v_asgE, v_own, v_ownG, v_par, v_aug, v_putNil, v_putV, v_putF, v_iAdd, v_pSl, v_oNone, v_oSome, v_eApp, v_ePop, v_eAppLL, v_eCallO, v_callO, v_i1, v_pM1, v_pChain, v_pIndex, v_aLen, v_aApp, v_pFrz, v_pAO, v_gLst, v_frz0, v_frz0l, v_frzO, v_frz1, v_frzV, v_frzU, R.bind_ok, RE.bind_ok, RE.seq_ok, R.seq_ok, R.seqB_ok, RE.bindA_ok, RA.bind_ok, RA.bindE_ok, RV.bind_ok, RB.bind_ok, RB.bindE_ok, RB.seq_ok, RE.bindB_ok, upB_ok, up_ok, RS.then_nx, RS.then_rt, RS.then_rtO, RS.then_ct, RS.then_bk, o_eqI, o_neI, o_eqB, o_or1, o_or2, o_or3, o_and1, o_and2, o_and3, Int.cast_ofNat_Int, Int.reduceEq, Int.reduceLT, Int.reduceLE, Int.reduceAdd, Int.reduceSub, Int.reduceMul, Int.reduceNeg, o_add, o_sub, o_lt, o_le, o_gt, o_ge, o_int, o_abs, o_lenL, o_lenT, o_lenS, o_isN, o_isnN, n_non, n_int, n_str, n_bl, n_tup, n_lst, n_ins, o_mkT0, o_mkT1, o_mkT2, o_mkT3, o_mkL0, o_mkL1, o_mkL2, o_mkL3, o_maxD, o_minD, o_revT, o_revL, o_ixT0, o_ixT1, o_ixT2, o_isL, o_tupL, o_tupT, o_not, o_neg, ok_match, ok_match2, kt_int, kt_str, kt_bl, kt_tup, kt_lst, kt_non, kt_some, i_enumT, i_enumL, i_lst, i_tup, i_scr, List.getElem?_cons_zero, List.getElem?_cons_succ, List.set_cons_zero, List.set_cons_succ, List.length_cons, List.length_nil, List.length_set, List.map_cons, List.map_nil, List.cons_append, List.nil_append, List.append_nil, Option.bind_some, Option.map_some, Nat.reduceAdd, Nat.reduceLT, Nat.reduceSucc, Nat.zero_lt_succ, Nat.lt_add_left_iff_pos, eq_self, and_self, true_and, and_true, if_true_, if_false_, Int.toNat_natCast, ite_true, ite_false, Bool.not_true, Bool.not_false, Bool.false_eq_true, decide_true, decide_false, wpO_some, turn_nx, turn_ct, turn_bk, reduceCtorEq, Nat.succ_pos, Nat.succ_lt_succ_iff]
    generalize hQ : turnQ _ _ = Q0
    refine wp_pre (fun k : Nat => .int k) (fun pre ρ => ∃ later s9 s10 s11, later.Nodup ∧ (∀ v, v ∈ later ↔ ∃ k ∈ pre, Adj L k v ∧ dst L v j + 1 = dst L k j) ∧
      ρ = [.val (twD n nm), .val (tiD nm L), .val (.lst (distA n L)), .val (.int (i : Nat)), .val (.int (j : Nat)), .val (.int (s : Nat)), .val (.lst (nA row)), .val (.lst (nA seen)), .own 0 (.lst (nA later)), s9, s10, s11, s12]) row rfl ?_ ?_ ?_
    · exact ⟨[], _, _, _, by simp, by simp, rfl⟩
    · rintro pre k post _ hsp ⟨later, s9, s10, s11, ndl, hl, rfl⟩
      have hk : k < n := ((hr k).mp (by rw [hsp]; simp)).1
      simp -implicitDefEqProofs only [v_pVar', v_pVarQ', v_pVarR', k_v, k_vq, k_vr, k_oq, k_or, k_or2, k_vVal, k_vFr, k_par, k_set, k_aug, k_own, k_retF, k_ix, k_ix2, k_ixL, oR_s, k_app2, k_app, k_pop3, k_pop2, k_pop, k_apL2, k_apL1, k_apL, k_cal, k_calR, k_calO, k_ch1, k_ch2, k_lst, k_fldV, k_fldO, v_setF, v_pC, v_p1, v_p2, v_p3, v_aNil, v_aCons, v_pA, v_b1, v_asB, v_bAnd, v_bOr, v_bNot, v_pIf, v_pAndK, v_pOrK, v_liftE, v_e1, v_e2, v_bNil, v_bCons, v_eA, v_vNil, v_vVal, v_vFr, v_liftB, v_q1, v_qAnd, v_qOr, v_qNot, v_eIf, v_gVar, v_gTupD, v_gsNil, v_gsCons, v_pIxLL, v_gIx, v_gIx2, v_sNext, v_sNever, v_sRetN, v_sRet, v_sRetE, v_sRetF, v_sExpr, v_sExprE, v_sIf, v_sIfE, v_seq, v_asg, v_asgE, v_own, v_ownG, v_par, v_aug, v_putNil, v_putV, v_putF, v_iAdd, v_pSl, v_oNone, v_oSome, v_eApp, v_ePop, v_eAppLL, v_eCallO, v_callO, v_i1, v_pM1, v_pChain, v_pIndex, v_aLen, v_aApp, v_pFrz, v_pAO, v_gLst, v_frz0, v_frz0l, v_frzO, v_frz1, v_frzV, v_frzU, R.bind_ok, RE.bind_ok, RE.seq_ok, R.seq_ok, R.seqB_ok, RE.bindA_ok, RA.bind_ok, RA.bindE_ok, RV.bind_ok, RB.bind_ok, RB.bindE_ok, RB.seq_ok, RE.bindB_ok, upB_ok, up_ok, RS.then_nx, RS.then_rt, RS.then_rtO, RS.then_ct, RS.then_bk, o_eqI, o_neI, o_eqB, o_or1, o_or2, o_or3, o_and1, o_and2, o_and3, Int.cast_ofNat_Int, Int.reduceEq, Int.reduceLT, Int.reduceLE, Int.reduceAdd, Int.reduceSub, Int.reduceMul, Int.reduceNeg, o_add, o_sub, o_lt, o_le, o_gt, o_ge, o_int, o_abs, o_lenL, o_lenT, o_lenS, o_isN, o_isnN, n_non, n_int, n_str, n_bl, n_tup, n_lst, n_ins, o_mkT0, o_mkT1, o_mkT2, o_mkT3, o_mkL0, o_mkL1, o_mkL2, o_mkL3, o_maxD, o_minD, o_revT, o_revL, o_ixT0, o_ixT1, o_ixT2, o_isL, o_tupL, o_tupT, o_not, o_neg, ok_match, ok_match2, kt_int, kt_str, kt_bl, kt_tup, kt_lst, kt_non, kt_some, i_enumT, i_enumL, i_lst, i_tup, i_scr, List.getElem?_cons_zero, List.getElem?_cons_succ, List.set_cons_zero, List.set_cons_succ, List.length_cons, List.length_nil, List.length_set, List.map_cons, List.map_nil, List.cons_append, List.nil_append, List.append_nil, Option.bind_some, Option.map_some, Nat.reduceAdd, Nat.reduceLT, Nat.reduceSucc, Nat.zero_lt_succ, Nat.lt_add_left_iff_pos, eq_self, and_self, true_and, and_true, if_true_, if_false_, Int.toNat_natCast, ite_true, ite_false, Bool.not_true, Bool.not_false, Bool.false_eq_true, decide_true, decide_false, wpO_some, turn_nx, turn_ct, turn_bk, reduceCtorEq, Nat.succ_pos, Nat.succ_lt_succ_iff]
      refine wp_end ?_
      generalize hQ1 : turnQ _ _ = Q1
      refine wp_pre (tieD nm) (fun pre2 ρ => ∃ later s10 s11, later.Nodup ∧ (∀ v, v ∈ later ↔ (∃ k ∈ pre, Adj L k v ∧ dst L v j + 1 = dst L k j) ∨ ((k, v) ∈ pre2 ∧ dst L v j + 1 = dst L k j)) ∧
        ρ = [.val (twD n nm), .val (tiD nm L), .val (.lst (distA n L)), .val (.int (i : Nat)), .val (.int (j : Nat)), .val (.int (s : Nat)), .val (.lst (nA row)), .val (.lst (nA seen)), .own 0 (.lst (nA later)), .val (.int (k : Nat)), s10, s11, s12]) (both L) ?_ ?_ ?_ ?_
      · rw [v_i1, both_c (nm := nm) (L := L) (by omega) rfl (by simp)]
        rfl
      · exact ⟨later, _, _, ndl, fun v => by rw [hl v]; simp, rfl⟩
      · rintro pre2 ⟨a, b⟩ post2 _ hsp2 ⟨later, s10, s11, ndl, hl, rfl⟩
        have had : Adj L a b := mem_both.mp (by rw [hsp2]; simp)
        obtain ⟨ha, hb⟩ := W.T.w.adj had
        have x1 := ix_arrL (g := fun j => D.int (dst L b j : Nat)) hj
        have x2 := ix_arrL (g := fun j => D.int (dst L k j : Nat)) hj
        have lall : ∀ v ∈ later, v < n := by
          intro v hv
          rcases (hl v).mp hv with ⟨k', _, h, _⟩ | ⟨h, _⟩
          · exact (W.T.w.adj h).2
          · exact (W.T.w.adj (mem_both.mp (by rw [hsp2]; exact List.mem_append_left _ h))).2
        have lz : (nA later).length < sizeLine := by rw [nA_len]; exact lt_size (by have := nd_len ndl lall; omega)
        have e1 : ((a : Nat) : Int) = (k : Nat) ↔ a = k := by omega
        have e2 : ((dst L b j : Nat) : Int) = (dst L k j : Nat) - 1 ↔ dst L b j + 1 = dst L k j := by omega
        unfold tieD
        by_cases c1 : a = k
        · subst c1
          by_cases c2 : dst L b j + 1 = dst L a j
          · by_cases c3 : b ∈ later
            · simp -implicitDefEqProofs only [v_pVar', v_pVarQ', v_pVarR', k_v, k_vq, k_vr, k_oq, k_or, k_or2, k_vVal, k_vFr, k_par, k_set, k_aug, k_own, k_retF, k_ix, k_ix2, k_ixL, oR_s, k_app2, k_app, k_pop3, k_pop2, k_pop, k_apL2, k_apL1, k_apL, k_cal, k_calR, k_calO, k_ch1, k_ch2, k_lst, k_fldV, k_fldO, v_setF, v_pC, v_p1, v_p2, v_p3, v_aNil, v_aCons, v_pA, v_b1, v_asB, v_bAnd, v_bOr, v_bNot, v_pIf, v_pAndK, v_pOrK, v_liftE, v_e1, v_e2, v_bNil, v_bCons, v_eA, v_vNil, v_vVal, v_vFr, v_liftB, v_q1, v_qAnd, v_qOr, v_qNot, v_eIf, v_gVar, v_gTupD, v_gsNil, v_gsCons, v_pIxLL, v_gIx, v_gIx2, v_sNext, v_sNever, v_sRetN, v_sRet, v_sRetE, v_sRetF, v_sExpr, v_sExprE, v_sIf, v_sIfE, v_seq, v_asg, v_asgE, v_own, v_ownG, v_par, v_aug, v_putNil, v_putV, v_putF, v_iAdd, v_pSl, v_oNone, v_oSome, v_eApp, v_ePop, v_eAppLL, v_eCallO, v_callO, v_i1, v_pM1, v_pChain, v_pIndex, v_aLen, v_aApp, v_pFrz, v_pAO, v_gLst, v_frz0, v_frz0l, v_frzO, v_frz1, v_frzV, v_frzU, R.bind_ok, RE.bind_ok, RE.seq_ok, R.seq_ok, R.seqB_ok, RE.bindA_ok, RA.bind_ok, RA.bindE_ok, RV.bind_ok, RB.bind_ok, RB.bindE_ok, RB.seq_ok, RE.bindB_ok, upB_ok, up_ok, RS.then_nx, RS.then_rt, RS.then_rtO, RS.then_ct, RS.then_bk, o_eqI, o_neI, o_eqB, o_or1, o_or2, o_or3, o_and1, o_and2, o_and3, Int.cast_ofNat_Int, Int.reduceEq, Int.reduceLT, Int.reduceLE, Int.reduceAdd, Int.reduceSub, Int.reduceMul, Int.reduceNeg, o_add, o_sub, o_lt, o_le, o_gt, o_ge, o_int, o_abs, o_lenL, o_lenT, o_lenS, o_isN, o_isnN, n_non, n_int, n_str, n_bl, n_tup, n_lst, n_ins, o_mkT0, o_mkT1, o_mkT2, o_mkT3, o_mkL0, o_mkL1, o_mkL2, o_mkL3, o_maxD, o_minD, o_revT, o_revL, o_ixT0, o_ixT1, o_ixT2, o_isL, o_tupL, o_tupT, o_not, o_neg, ok_match, ok_match2, kt_int, kt_str, kt_bl, kt_tup, kt_lst, kt_non, kt_some, i_enumT, i_enumL, i_lst, i_tup, i_scr, List.getElem?_cons_zero, List.getElem?_cons_succ, List.set_cons_zero, List.set_cons_succ, List.length_cons, List.length_nil, List.length_set, List.map_cons, List.map_nil, List.cons_append, List.nil_append, List.append_nil, Option.bind_some, Option.map_some, Nat.reduceAdd, Nat.reduceLT, Nat.reduceSucc, Nat.zero_lt_succ, Nat.lt_add_left_iff_pos, eq_self, and_self, true_and, and_true, if_true_, if_false_, Int.toNat_natCast, ite_true, ite_false, Bool.not_true, Bool.not_false, Bool.false_eq_true, decide_true, decide_false, wpO_some, turn_nx, turn_ct, turn_bk, reduceCtorEq, Nat.succ_pos, Nat.succ_lt_succ_iff, N.kind, N.ix ha, N.ix hb, e1, ix_dA hb, ix_dA ha, x1, x2, e2, c2, nin_nat, c3]
              refine ⟨later, _, _, ndl, fun v => ?_, rfl⟩
              rw [hl v]
              constructor
              · rintro (h | ⟨h, h'⟩)
                · exact .inl h
                · exact .inr ⟨List.mem_append_left _ h, h'⟩
              · rintro (h | ⟨h, h'⟩)
                · exact .inl h
                · rcases List.mem_append.mp h with h | h
                  · exact .inr ⟨h, h'⟩
                  · simp at h; subst h; exact (hl v).mp c3
            · simp -implicitDefEqProofs only [v_pVar', v_pVarQ', v_pVarR', k_v, k_vq, k_vr, k_oq, k_or, k_or2, k_vVal, k_vFr, k_par, k_set, k_aug, k_own, k_retF, k_ix, k_ix2, k_ixL, oR_s, k_app2, k_app, k_pop3, k_pop2, k_pop, k_apL2, k_apL1, k_apL, k_cal, k_calR, k_calO, k_ch1, k_ch2, k_lst, k_fldV, k_fldO, v_setF, v_pC, v_p1, v_p2, v_p3, v_aNil, v_aCons, v_pA, v_b1, v_asB, v_bAnd, v_bOr, v_bNot, v_pIf, v_pAndK, v_pOrK, v_liftE, v_e1, v_e2, v_bNil, v_bCons, v_eA, v_vNil, v_vVal, v_vFr, v_liftB, v_q1, v_qAnd, v_qOr, v_qNot, v_eIf, v_gVar, v_gTupD, v_gsNil, v_gsCons, v_pIxLL, v_gIx, v_gIx2, v_sNext, v_sNever, v_sRetN, v_sRet, v_sRetE, v_sRetF, v_sExpr, v_sExprE, v_sIf, v_sIfE, v_seq, v_asg, v_asgE, v_own, v_ownG, v_par, v_aug, v_putNil, v_putV, v_putF, v_iAdd, v_pSl, v_oNone, v_oSome, v_eApp, v_ePop, v_eAppLL, v_eCallO, v_callO, v_i1, v_pM1, v_pChain, v_pIndex, v_aLen, v_aApp, v_pFrz, v_pAO, v_gLst, v_frz0, v_frz0l, v_frzO, v_frz1, v_frzV, v_frzU, R.bind_ok, RE.bind_ok, RE.seq_ok, R.seq_ok, R.seqB_ok, RE.bindA_ok, RA.bind_ok, RA.bindE_ok, RV.bind_ok, RB.bind_ok, RB.bindE_ok, RB.seq_ok, RE.bindB_ok, upB_ok, up_ok, RS.then_nx, RS.then_rt, RS.then_rtO, RS.then_ct, RS.then_bk, o_eqI, o_neI, o_eqB, o_or1, o_or2, o_or3, o_and1, o_and2, o_and3, Int.cast_ofNat_Int, Int.reduceEq, Int.reduceLT, Int.reduceLE, Int.reduceAdd, Int.reduceSub, Int.reduceMul, Int.reduceNeg, o_add, o_sub, o_lt, o_le, o_gt, o_ge, o_int, o_abs, o_lenL, o_lenT, o_lenS, o_isN, o_isnN, n_non, n_int, n_str, n_bl, n_tup, n_lst, n_ins, o_mkT0, o_mkT1, o_mkT2, o_mkT3, o_mkL0, o_mkL1, o_mkL2, o_mkL3, o_maxD, o_minD, o_revT, o_revL, o_ixT0, o_ixT1, o_ixT2, o_isL, o_tupL, o_tupT, o_not, o_neg, ok_match, ok_match2, kt_int, kt_str, kt_bl, kt_tup, kt_lst, kt_non, kt_some, i_enumT, i_enumL, i_lst, i_tup, i_scr, List.getElem?_cons_zero, List.getElem?_cons_succ, List.set_cons_zero, List.set_cons_succ, List.length_cons, List.length_nil, List.length_set, List.map_cons, List.map_nil, List.cons_append, List.nil_append, List.append_nil, Option.bind_some, Option.map_some, Nat.reduceAdd, Nat.reduceLT, Nat.reduceSucc, Nat.zero_lt_succ, Nat.lt_add_left_iff_pos, eq_self, and_self, true_and, and_true, if_true_, if_false_, Int.toNat_natCast, ite_true, ite_false, Bool.not_true, Bool.not_false, Bool.false_eq_true, decide_true, decide_false, wpO_some, turn_nx, turn_ct, turn_bk, reduceCtorEq, Nat.succ_pos, Nat.succ_lt_succ_iff, N.kind, N.ix ha, N.ix hb, e1, ix_dA hb, ix_dA ha, x1, x2, e2, c2, nin_nat, c3, lz, nA_append]
              refine ⟨later ++ [b], _, _, nd_push ndl c3, fun v => ?_, rfl⟩
              rw [List.mem_append, hl v, List.mem_singleton]
              constructor
              · rintro ((h | ⟨h, h'⟩) | rfl)
                · exact .inl h
                · exact .inr ⟨List.mem_append_left _ h, h'⟩
                · exact .inr ⟨by simp, c2⟩
              · rintro (h | ⟨h, h'⟩)
                · exact .inl (.inl h)
                · rcases List.mem_append.mp h with h | h
                  · exact .inl (.inr ⟨h, h'⟩)
                  · simp at h; exact .inr h
          · simp -implicitDefEqProofs only [v_pVar', v_pVarQ', v_pVarR', k_v, k_vq, k_vr, k_oq, k_or, k_or2, k_vVal, k_vFr, k_par, k_set, k_aug, k_own, k_retF, k_ix, k_ix2, k_ixL, oR_s, k_app2, k_app, k_pop3, k_pop2, k_pop, k_apL2, k_apL1, k_apL, k_cal, k_calR, k_calO, k_ch1, k_ch2, k_lst, k_fldV, k_fldO, v_setF, v_pC, v_p1, v_p2, v_p3, v_aNil, v_aCons, v_pA, v_b1, v_asB, v_bAnd, v_bOr, v_bNot, v_pIf, v_pAndK, v_pOrK, v_liftE, v_e1, v_e2, v_bNil, v_bCons, v_eA, v_vNil, v_vVal, v_vFr, v_liftB, v_q1, v_qAnd, v_qOr, v_qNot, v_eIf, v_gVar, v_gTupD, v_gsNil, v_gsCons, v_pIxLL, v_gIx, v_gIx2, v_sNext, v_sNever, v_sRetN, v_sRet, v_sRetE, v_sRetF, v_sExpr, v_sExprE, v_sIf, v_sIfE, v_seq, v_asg, v_asgE, v_own, v_ownG, v_par, v_aug, v_putNil, v_putV, v_putF, v_iAdd, v_pSl, v_oNone, v_oSome, v_eApp, v_ePop, v_eAppLL, v_eCallO, v_callO, v_i1, v_pM1, v_pChain, v_pIndex, v_aLen, v_aApp, v_pFrz, v_pAO, v_gLst, v_frz0, v_frz0l, v_frzO, v_frz1, v_frzV, v_frzU, R.bind_ok, RE.bind_ok, RE.seq_ok, R.seq_ok, R.seqB_ok, RE.bindA_ok, RA.bind_ok, RA.bindE_ok, RV.bind_ok, RB.bind_ok, RB.bindE_ok, RB.seq_ok, RE.bindB_ok, upB_ok, up_ok, RS.then_nx, RS.then_rt, RS.then_rtO, RS.then_ct, RS.then_bk, o_eqI, o_neI, o_eqB, o_or1, o_or2, o_or3, o_and1, o_and2, o_and3, Int.cast_ofNat_Int, Int.reduceEq, Int.reduceLT, Int.reduceLE, Int.reduceAdd, Int.reduceSub, Int.reduceMul, Int.reduceNeg, o_add, o_sub, o_lt, o_le, o_gt, o_ge, o_int, o_abs, o_lenL, o_lenT, o_lenS, o_isN, o_isnN, n_non, n_int, n_str, n_bl, n_tup, n_lst, n_ins, o_mkT0, o_mkT1, o_mkT2, o_mkT3, o_mkL0, o_mkL1, o_mkL2, o_mkL3, o_maxD, o_minD, o_revT, o_revL, o_ixT0, o_ixT1, o_ixT2, o_isL, o_tupL, o_tupT, o_not, o_neg, ok_match, ok_match2, kt_int, kt_str, kt_bl, kt_tup, kt_lst, kt_non, kt_some, i_enumT, i_enumL, i_lst, i_tup, i_scr, List.getElem?_cons_zero, List.getElem?_cons_succ, List.set_cons_zero, List.set_cons_succ, List.length_cons, List.length_nil, List.length_set, List.map_cons, List.map_nil, List.cons_append, List.nil_append, List.append_nil, Option.bind_some, Option.map_some, Nat.reduceAdd, Nat.reduceLT, Nat.reduceSucc, Nat.zero_lt_succ, Nat.lt_add_left_iff_pos, eq_self, and_self, true_and, and_true, if_true_, if_false_, Int.toNat_natCast, ite_true, ite_false, Bool.not_true, Bool.not_false, Bool.false_eq_true, decide_true, decide_false, wpO_some, turn_nx, turn_ct, turn_bk, reduceCtorEq, Nat.succ_pos, Nat.succ_lt_succ_iff, N.kind, N.ix ha, N.ix hb, e1, ix_dA hb, ix_dA ha, x1, x2, e2, c2]
            refine ⟨later, _, _, ndl, fun v => ?_, rfl⟩
            rw [hl v]
            constructor
            · rintro (h | ⟨h, h'⟩)
              · exact .inl h
              · exact .inr ⟨List.mem_append_left _ h, h'⟩
            · rintro (h | ⟨h, h'⟩)
              · exact .inl h
              · rcases List.mem_append.mp h with h | h
                · exact .inr ⟨h, h'⟩
                · simp at h; subst h; exact absurd h' c2
        · simp -implicitDefEqProofs only [v_pVar', v_pVarQ', v_pVarR', k_v, k_vq, k_vr, k_oq, k_or, k_or2, k_vVal, k_vFr, k_par, k_set, k_aug, k_own, k_retF, k_ix, k_ix2, k_ixL, oR_s, k_app2, k_app, k_pop3, k_pop2, k_pop, k_apL2, k_apL1, k_apL, k_cal, k_calR, k_calO, k_ch1, k_ch2, k_lst, k_fldV, k_fldO, v_setF, v_pC, v_p1, v_p2, v_p3, v_aNil, v_aCons, v_pA, v_b1, v_asB, v_bAnd, v_bOr, v_bNot, v_pIf, v_pAndK, v_pOrK, v_liftE, v_e1, v_e2, v_bNil, v_bCons, v_eA, v_vNil, v_vVal, v_vFr, v_liftB, v_q1, v_qAnd, v_qOr, v_qNot, v_eIf, v_gVar, v_gTupD, v_gsNil, v_gsCons, v_pIxLL, v_gIx, v_gIx2, v_sNext, v_sNever, v_sRetN, v_sRet, v_sRetE, v_sRetF, v_sExpr, v_sExprE, v_sIf, v_sIfE, v_seq, v_asg, v_asgE, v_own, v_ownG, v_par, v_aug, v_putNil, v_putV, v_putF, v_iAdd, v_pSl, v_oNone, v_oSome, v_eApp, v_ePop, v_eAppLL, v_eCallO, v_callO, v_i1, v_pM1, v_pChain, v_pIndex, v_aLen, v_aApp, v_pFrz, v_pAO, v_gLst, v_frz0, v_frz0l, v_frzO, v_frz1, v_frzV, v_frzU, R.bind_ok, RE.bind_ok, RE.seq_ok, R.seq_ok, R.seqB_ok, RE.bindA_ok, RA.bind_ok, RA.bindE_ok, RV.bind_ok, RB.bind_ok, RB.bindE_ok, RB.seq_ok, RE.bindB_ok, upB_ok, up_ok, RS.then_nx, RS.then_rt, RS.then_rtO, RS.then_ct, RS.then_bk, o_eqI, o_neI, o_eqB, o_or1, o_or2, o_or3, o_and1, o_and2, o_and3, Int.cast_ofNat_Int, Int.reduceEq, Int.reduceLT, Int.reduceLE, Int.reduceAdd, Int.reduceSub, Int.reduceMul, Int.reduceNeg, o_add, o_sub, o_lt, o_le, o_gt, o_ge, o_int, o_abs, o_lenL, o_lenT, o_lenS, o_isN, o_isnN, n_non, n_int, n_str, n_bl, n_tup, n_lst, n_ins, o_mkT0, o_mkT1, o_mkT2, o_mkT3, o_mkL0, o_mkL1, o_mkL2, o_mkL3, o_maxD, o_minD, o_revT, o_revL, o_ixT0, o_ixT1, o_ixT2, o_isL, o_tupL, o_tupT, o_not, o_neg, ok_match, ok_match2, kt_int, kt_str, kt_bl, kt_tup, kt_lst, kt_non, kt_some, i_enumT, i_enumL, i_lst, i_tup, i_scr, List.getElem?_cons_zero, List.getElem?_cons_succ, List.set_cons_zero, List.set_cons_succ, List.length_cons, List.length_nil, List.length_set, List.map_cons, List.map_nil, List.cons_append, List.nil_append, List.append_nil, Option.bind_some, Option.map_some, Nat.reduceAdd, Nat.reduceLT, Nat.reduceSucc, Nat.zero_lt_succ, Nat.lt_add_left_iff_pos, eq_self, and_self, true_and, and_true, if_true_, if_false_, Int.toNat_natCast, ite_true, ite_false, Bool.not_true, Bool.not_false, Bool.false_eq_true, decide_true, decide_false, wpO_some, turn_nx, turn_ct, turn_bk, reduceCtorEq, Nat.succ_pos, Nat.succ_lt_succ_iff, N.kind, N.ix ha, N.ix hb, e1, c1]
          refine ⟨later, _, _, ndl, fun v => ?_, rfl⟩
          rw [hl v]
          constructor
          · rintro (h | ⟨h, h'⟩)
            · exact .inl h
            · exact .inr ⟨List.mem_append_left _ h, h'⟩
          · rintro (h | ⟨h, h'⟩)
            · exact .inl h
            · rcases List.mem_append.mp h with h | h
              · exact .inr ⟨h, h'⟩
              · simp at h; exact absurd h.1.symm c1
      · rintro _ ⟨later, s10, s11, ndl, hl, rfl⟩
        subst hQ1
        simp -implicitDefEqProofs only [v_pVar', v_pVarQ', v_pVarR', k_v, k_vq, k_vr, k_oq, k_or, k_or2, k_vVal, k_vFr, k_par, k_set, k_aug, k_own, k_retF, k_ix, k_ix2, k_ixL, oR_s, k_app2, k_app, k_pop3, k_pop2, k_pop, k_apL2, k_apL1, k_apL, k_cal, k_calR, k_calO, k_ch1, k_ch2, k_lst, k_fldV, k_fldO, v_setF, v_pC, v_p1, v_p2, v_p3, v_aNil, v_aCons, v_pA, v_b1, v_asB, v_bAnd, v_bOr, v_bNot, v_pIf, v_pAndK, v_pOrK, v_liftE, v_e1, v_e2, v_bNil, v_bCons, v_eA, v_vNil, v_vVal, v_vFr, v_liftB, v_q1, v_qAnd, v_qOr, v_qNot, v_eIf, v_gVar, v_gTupD, v_gsNil, v_gsCons, v_pIxLL, v_gIx, v_gIx2, v_sNext, v_sNever, v_sRetN, v_sRet, v_sRetE, v_sRetF, v_sExpr, v_sExprE, v_sIf, v_sIfE, v_seq, v_asg, v_asgE, v_own, v_ownG, v_par, v_aug, v_putNil, v_putV, v_putF, v_iAdd, v_pSl, v_oNone, v_oSome, v_eApp, v_ePop, v_eAppLL, v_eCallO, v_callO, v_i1, v_pM1, v_pChain, v_pIndex, v_aLen, v_aApp, v_pFrz, v_pAO, v_gLst, v_frz0, v_frz0l, v_frzO, v_frz1, v_frzV, v_frzU, R.bind_ok, RE.bind_ok, RE.seq_ok, R.seq_ok, R.seqB_ok, RE.bindA_ok, RA.bind_ok, RA.bindE_ok, RV.bind_ok, RB.bind_ok, RB.bindE_ok, RB.seq_ok, RE.bindB_ok, upB_ok, up_ok, RS.then_nx, RS.then_rt, RS.then_rtO, RS.then_ct, RS.then_bk, o_eqI, o_neI, o_eqB, o_or1, o_or2, o_or3, o_and1, o_and2, o_and3, Int.cast_ofNat_Int, Int.reduceEq, Int.reduceLT, Int.reduceLE, Int.reduceAdd, Int.reduceSub, Int.reduceMul, Int.reduceNeg, o_add, o_sub, o_lt, o_le, o_gt, o_ge, o_int, o_abs, o_lenL, o_lenT, o_lenS, o_isN, o_isnN, n_non, n_int, n_str, n_bl, n_tup, n_lst, n_ins, o_mkT0, o_mkT1, o_mkT2, o_mkT3, o_mkL0, o_mkL1, o_mkL2, o_mkL3, o_maxD, o_minD, o_revT, o_revL, o_ixT0, o_ixT1, o_ixT2, o_isL, o_tupL, o_tupT, o_not, o_neg, ok_match, ok_match2, kt_int, kt_str, kt_bl, kt_tup, kt_lst, kt_non, kt_some, i_enumT, i_enumL, i_lst, i_tup, i_scr, List.getElem?_cons_zero, List.getElem?_cons_succ, List.set_cons_zero, List.set_cons_succ, List.length_cons, List.length_nil, List.length_set, List.map_cons, List.map_nil, List.cons_append, List.nil_append, List.append_nil, Option.bind_some, Option.map_some, Nat.reduceAdd, Nat.reduceLT, Nat.reduceSucc, Nat.zero_lt_succ, Nat.lt_add_left_iff_pos, eq_self, and_self, true_and, and_true, if_true_, if_false_, Int.toNat_natCast, ite_true, ite_false, Bool.not_true, Bool.not_false, Bool.false_eq_true, decide_true, decide_false, wpO_some, turn_nx, turn_ct, turn_bk, reduceCtorEq, Nat.succ_pos, Nat.succ_lt_succ_iff]
        refine ⟨later, _, _, _, ndl, fun v => ?_, rfl⟩
        rw [hl v]
        constructor
        · rintro (⟨k', h, h'⟩ | ⟨h, h'⟩)
          · exact ⟨k', List.mem_append_left _ h, h'⟩
          · exact ⟨k, by simp, mem_both.mp h, h'⟩
        · rintro ⟨k', h, h', h''⟩
          rcases List.mem_append.mp h with h | h
          · exact .inl ⟨k', h, h', h''⟩
          · simp at h; subst h; exact .inr ⟨mem_both.mpr h', h''⟩
    · rintro _ ⟨later, s9, s10, s11, ndl, hl, rfl⟩
      subst hQ
      have key : ∀ v, v ∈ later ↔ v < n ∧ dst L i v = s + 1 ∧ dst L v j + (s + 1) = dst L i j := by
        intro v
        rw [hl v]
        constructor
        · rintro ⟨k, hk, ad, e⟩
          obtain ⟨h1, h2, h3⟩ := (hr k).mp hk
          have hv := (W.T.w.adj ad).2
          have n1 := (dd hi h1).near (dd hi hv) ad
          have t1 := (dd hi hv).tri (dd hv hj) (dd hi hj)
          refine ⟨hv, by omega, by omega⟩
        · rintro ⟨hv, h2, h3⟩
          have d1 := dd hi hv
          rw [h2] at d1
          obtain ⟨p, dp, ad⟩ := d1.pred
          have hp := (W.T.w.adj ad).1
          have e := dst_of dp
          have n1 := ((dd hp hj).symm.near (dd hv hj).symm ad)
          have t1 := (dd hi hp).tri (dd hp hj) (dd hi hj)
          refine ⟨p, (hr p).mpr ⟨hp, e, by omega⟩, ad, by omega⟩
      have lall : ∀ v ∈ later, v < n := fun v hv => ((key v).mp hv).1
      have sall : ∀ v ∈ seen, v < n := fun v hv => ((hsn v).mp hv).1
      have l1 := nd_len ndl lall
      have l2 := nd_len nds sall
      have ea : addD (.lst (nA seen)) (.lst (nA later)) = .ok (.lst (nA (seen ++ later))) := by
        rw [add_lst (by rw [nA_len, nA_len]; omega)]
        unfold nA; rw [List.map_append]
      simp -implicitDefEqProofs only [v_pVar', v_pVarQ', v_pVarR', k_v, k_vq, k_vr, k_oq, k_or, k_or2, k_vVal, k_vFr, k_par, k_set, k_aug, k_own, k_retF, k_ix, k_ix2, k_ixL, oR_s, k_app2, k_app, k_pop3, k_pop2, k_pop, k_apL2, k_apL1, k_apL, k_cal, k_calR, k_calO, k_ch1, k_ch2, k_lst, k_fldV, k_fldO, v_setF, v_pC, v_p1, v_p2, v_p3, v_aNil, v_aCons, v_pA, v_b1, v_asB, v_bAnd, v_bOr, v_bNot, v_pIf, v_pAndK, v_pOrK, v_liftE, v_e1, v_e2, v_bNil, v_bCons, v_eA, v_vNil, v_vVal, v_vFr, v_liftB, v_q1, v_qAnd, v_qOr, v_qNot, v_eIf, v_gVar, v_gTupD, v_gsNil, v_gsCons, v_pIxLL, v_gIx, v_gIx2, v_sNext, v_sNever, v_sRetN, v_sRet, v_sRetE, v_sRetF, v_sExpr, v_sExprE, v_sIf, v_sIfE, v_seq, v_asg, v_asgE, v_own, v_ownG, v_par, v_aug, v_putNil, v_putV, v_putF, v_iAdd, v_pSl, v_oNone, v_oSome, v_eApp, v_ePop, v_eAppLL, v_eCallO, v_callO, v_i1, v_pM1, v_pChain, v_pIndex, v_aLen, v_aApp, v_pFrz, v_pAO, v_gLst, v_frz0, v_frz0l, v_frzO, v_frz1, v_frzV, v_frzU, R.bind_ok, RE.bind_ok, RE.seq_ok, R.seq_ok, R.seqB_ok, RE.bindA_ok, RA.bind_ok, RA.bindE_ok, RV.bind_ok, RB.bind_ok, RB.bindE_ok, RB.seq_ok, RE.bindB_ok, upB_ok, up_ok, RS.then_nx, RS.then_rt, RS.then_rtO, RS.then_ct, RS.then_bk, o_eqI, o_neI, o_eqB, o_or1, o_or2, o_or3, o_and1, o_and2, o_and3, Int.cast_ofNat_Int, Int.reduceEq, Int.reduceLT, Int.reduceLE, Int.reduceAdd, Int.reduceSub, Int.reduceMul, Int.reduceNeg, o_add, o_sub, o_lt, o_le, o_gt, o_ge, o_int, o_abs, o_lenL, o_lenT, o_lenS, o_isN, o_isnN, n_non, n_int, n_str, n_bl, n_tup, n_lst, n_ins, o_mkT0, o_mkT1, o_mkT2, o_mkT3, o_mkL0, o_mkL1, o_mkL2, o_mkL3, o_maxD, o_minD, o_revT, o_revL, o_ixT0, o_ixT1, o_ixT2, o_isL, o_tupL, o_tupT, o_not, o_neg, ok_match, ok_match2, kt_int, kt_str, kt_bl, kt_tup, kt_lst, kt_non, kt_some, i_enumT, i_enumL, i_lst, i_tup, i_scr, List.getElem?_cons_zero, List.getElem?_cons_succ, List.set_cons_zero, List.set_cons_succ, List.length_cons, List.length_nil, List.length_set, List.map_cons, List.map_nil, List.cons_append, List.nil_append, List.append_nil, Option.bind_some, Option.map_some, Nat.reduceAdd, Nat.reduceLT, Nat.reduceSucc, Nat.zero_lt_succ, Nat.lt_add_left_iff_pos, eq_self, and_self, true_and, and_true, if_true_, if_false_, Int.toNat_natCast, ite_true, ite_false, Bool.not_true, Bool.not_false, Bool.false_eq_true, decide_true, decide_false, wpO_some, turn_nx, turn_ct, turn_bk, reduceCtorEq, Nat.succ_pos, Nat.succ_lt_succ_iff, ea]
      refine ⟨later, seen ++ later, _, _, _, _, _, _, ndl, key, ?_, fun v => ?_, rfl⟩
      · rw [List.nodup_append]
        refine ⟨nds, ndl, fun x hx y hy => ?_⟩
        have := ((hsn x).mp hx).2.1
        have := ((key y).mp hy).2.1
        intro z; subst z; omega
      · rw [List.mem_append, hsn v, key v]
        constructor
        · rintro (⟨h1, h2, h3⟩ | ⟨h1, h2, h3⟩)
          · exact ⟨h1, by omega, h3⟩
          · exact ⟨h1, by omega, by omega⟩
        · rintro ⟨h1, h2, h3⟩
          by_cases q : dst L i v ≤ s
          · exact .inl ⟨h1, q, h3⟩
          · exact .inr ⟨h1, by omega, by omega⟩
  · rintro _ ⟨row, seen, s5, s8, s9, s10, s11, s12, ndr, hr, nds, hsn, rfl⟩
    have pm : (btw n L i j).Perm seen := (List.perm_ext_iff_of_nodup (btw_nd n L i j) nds).mpr fun v => by
      rw [mem_btw, hsn v]
      constructor
      · rintro ⟨h1, h2⟩; exact ⟨h1, by omega, h2⟩
      · rintro ⟨h1, _, h2⟩; exact ⟨h1, h2⟩
    simp -implicitDefEqProofs only [v_pVar', v_pVarQ', v_pVarR', k_v, k_vq, k_vr, k_oq, k_or, k_or2, k_vVal, k_vFr, k_par, k_set, k_aug, k_own, k_retF, k_ix, k_ix2, k_ixL, oR_s, k_app2, k_app, k_pop3, k_pop2, k_pop, k_apL2, k_apL1, k_apL, k_cal, k_calR, k_calO, k_ch1, k_ch2, k_lst, k_fldV, k_fldO, v_setF, v_pC, v_p1, v_p2, v_p3, v_aNil, v_aCons, v_pA, v_b1, v_asB, v_bAnd, v_bOr, v_bNot, v_pIf, v_pAndK, v_pOrK, v_liftE, v_e1, v_e2, v_bNil, v_bCons, v_eA, v_vNil, v_vVal, v_vFr, v_liftB, v_q1, v_qAnd, v_qOr, v_qNot, v_eIf, v_gVar, v_gTupD, v_gsNil, v_gsCons, v_pIxLL, v_gIx, v_gIx2, v_sNext, v_sNever, v_sRetN, v_sRet, v_sRetE, v_sRetF, v_sExpr, v_sExprE, v_sIf, v_sIfE, v_seq, v_asg, v_asgE, v_own, v_ownG, v_par, v_aug, v_putNil, v_putV, v_putF, v_iAdd, v_pSl, v_oNone, v_oSome, v_eApp, v_ePop, v_eAppLL, v_eCallO, v_callO, v_i1, v_pM1, v_pChain, v_pIndex, v_aLen, v_aApp, v_pFrz, v_pAO, v_gLst, v_frz0, v_frz0l, v_frzO, v_frz1, v_frzV, v_frzU, R.bind_ok, RE.bind_ok, RE.seq_ok, R.seq_ok, R.seqB_ok, RE.bindA_ok, RA.bind_ok, RA.bindE_ok, RV.bind_ok, RB.bind_ok, RB.bindE_ok, RB.seq_ok, RE.bindB_ok, upB_ok, up_ok, RS.then_nx, RS.then_rt, RS.then_rtO, RS.then_ct, RS.then_bk, o_eqI, o_neI, o_eqB, o_or1, o_or2, o_or3, o_and1, o_and2, o_and3, Int.cast_ofNat_Int, Int.reduceEq, Int.reduceLT, Int.reduceLE, Int.reduceAdd, Int.reduceSub, Int.reduceMul, Int.reduceNeg, o_add, o_sub, o_lt, o_le, o_gt, o_ge, o_int, o_abs, o_lenL, o_lenT, o_lenS, o_isN, o_isnN, n_non, n_int, n_str, n_bl, n_tup, n_lst, n_ins, o_mkT0, o_mkT1, o_mkT2, o_mkT3, o_mkL0, o_mkL1, o_mkL2, o_mkL3, o_maxD, o_minD, o_revT, o_revL, o_ixT0, o_ixT1, o_ixT2, o_isL, o_tupL, o_tupT, o_not, o_neg, ok_match, ok_match2, kt_int, kt_str, kt_bl, kt_tup, kt_lst, kt_non, kt_some, i_enumT, i_enumL, i_lst, i_tup, i_scr, List.getElem?_cons_zero, List.getElem?_cons_succ, List.set_cons_zero, List.set_cons_succ, List.length_cons, List.length_nil, List.length_set, List.map_cons, List.map_nil, List.cons_append, List.nil_append, List.append_nil, Option.bind_some, Option.map_some, Nat.reduceAdd, Nat.reduceLT, Nat.reduceSucc, Nat.zero_lt_succ, Nat.lt_add_left_iff_pos, eq_self, and_self, true_and, and_true, if_true_, if_false_, Int.toNat_natCast, ite_true, ite_false, Bool.not_true, Bool.not_false, Bool.false_eq_true, decide_true, decide_false, wpO_some, turn_nx, turn_ct, turn_bk, reduceCtorEq, Nat.succ_pos, Nat.succ_lt_succ_iff, sort_nA pm (range_pw n _)]
    exact isRt_ok
end MA

set_option Elab.async false
set_option linter.all false
set_option maxRecDepth 100000
set_option maxHeartbeats 8000000
/-! The law of towns between. -/
namespace MA
open PySem PySem.Spec PyProof.Rows L2 He DL DM Gr
theorem btw_symm (n : Nat) (L : Es) (i j : Nat) : btw n L j i = btw n L i j := by
  unfold btw
  congr 1
  funext k
  rw [dst_symm j k, dst_symm k i, dst_symm j i, Nat.add_comm]
theorem filter_eq_one {n i : Nat} (hi : i < n) : (List.range n).filter (fun k => decide (k = i)) = [i] := by
  have h1 : ((List.range n).filter fun k => decide (k = i)).Perm [i] := (List.perm_ext_iff_of_nodup (List.Pairwise.filter _ List.nodup_range) (by simp)).mpr fun a => by
    rw [List.mem_filter, List.mem_range, decide_eq_true_eq, List.mem_singleton]
    exact ⟨fun h => h.2, fun h => ⟨h ▸ hi, h⟩⟩
  exact List.perm_singleton.mp h1
theorem btw_self {n : Nat} {nm : Nat → Str} {L : Es} (W : Wb n nm L) {i : Nat} (hi : i < n) : btw n L i i = [i] := by
  rw [← filter_eq_one hi]
  unfold btw
  refine List.filter_congr fun k hk => ?_
  have hk' := List.mem_range.mp hk
  congr 1
  rw [dst_self, eq_iff_iff]
  constructor
  · intro h
    have := W.H.dst hi hk'
    rw [show dst L i k = 0 by omega] at this
    exact this.zero.symm
  · rintro rfl
    rw [dst_self]
theorem btw_ends {n : Nat} {L : Es} {i j : Nat} (hi : i < n) (hj : j < n) : i ∈ btw n L i j ∧ j ∈ btw n L i j := by
  rw [mem_btw, mem_btw, dst_self, dst_self]
  exact ⟨⟨hi, by omega⟩, hj, by omega⟩
def nmA (nm : Nat → Str) (xs : List Nat) : List D := xs.map fun k => .str (nm k)
section
variable {n : Nat} {nm : Nat → Str} (N : Nms n nm)
include N
theorem Nms.ninN {xs : List Nat} {i : Nat} (hx : ∀ k ∈ xs, k < n) (hi : i < n) : ninD (.str (nm i)) (.tup (nmA nm xs)) = .ok (.bl (!decide (i ∈ xs))) := by
  rw [o_ninT (N.sd hi) (sd_tup (k := 0) fun x hx' => by obtain ⟨k, hk, rfl⟩ := List.mem_map.mp hx'; exact N.sd (hx k hk)) (by omega) (by omega)]
  congr 3
  rw [Bool.eq_iff_iff, List.any_eq_true, decide_eq_true_eq]
  constructor
  · rintro ⟨z, hz, e⟩
    obtain ⟨k, hk, rfl⟩ := List.mem_map.mp hz
    rw [eqv_str, beq_iff_eq] at e
    rw [← N.inj k i (hx k hk) hi e]
    exact hk
  · intro h
    exact ⟨.str (nm i), List.mem_map.mpr ⟨i, h, rfl⟩, by rw [eqv_str]; exact beq_self_eq_true _⟩
theorem Nms.swN {xs : List Nat} (hx : ∀ k ∈ xs, k < n) : Sw 1 (xs.length * 9) (.tup (nmA nm xs)) := by
  have := sw_tup (k := 0) (w := 8) (xs := nmA nm xs) fun x hx' => by
    obtain ⟨k, hk, rfl⟩ := List.mem_map.mp hx'
    exact sw_str (N.fine k (hx k hk)) (N.sz k (hx k hk))
  unfold nmA at *
  rwa [List.length_map] at this
end
theorem mul3 (d : D) : mulD (.lst [d]) (.int 3) = .ok (.lst [d, d, d]) := by
  show (if (0 : Int) ≤ 3 ∧ (3 : Int) < 2 ^ 63 ∧ [d].length * (3 : Int).toNat ≤ sizeLine then R.ok (D.lst (List.replicate (3 : Int).toNat [d]).flatten) else .st) = _
  rw [if_pos ⟨by omega, by decide, by rw [sizeLine_eq]; show 1 * 3 ≤ _; omega⟩]
  rfl
section
variable {K : Fg} (hk : KW K)
include hk
theorem inner10 {n : Nat} {nm : Nat → Str} {L : Es} (W : Wb n nm L) {o : Ow} (ho : PhOk o) {s1 s4 s7 s8 s9 s10 s11 s12 : Sl} {Q : RS → Prop}
    (h : ∀ o s4 s7 s8 s10 s11, PhOk o → Q (.ok .nx [.own 0 o, s1, .val (twD n nm), .val (tiD nm L), s4, .val (webD K n nm L), .val (.lst (distA n L)), s7, s8, s9, s10, s11, s12])) :
    Wp ((sFor (iRange1 (pC (.int 6))) (gVar 4) (sSeq (sPar [10, 11] (vVal (eCallO F__law_drop 0 (bCons (liftE (p1 lenD (pVar 2))) bNil)) (vVal (eCallO F__law_drop 0 (bCons (liftE (p1 lenD (pVar 2))) bNil)) vNil))) (sSeq (sAsg (gVar 7) (p1 tupD (p1 isL (pLc (i1 itemsD (pA (callV F__law_on_ways) (aCons (pVar 2) (aCons (pVar 3) (aCons (pVar 6) (aCons (pVar 10) (aCons (pVar 11) aNil))))))) [12] (gVar 12) tYes' (p2 ixD (pVar 2) (pVar 12)))))) (sSeq (sAsg (gVar 8) (p1 isL (pA mkL (aCons (pA (callV (F_between K)) (aCons (pVar 5) (aCons (p2 ixD (pVar 2) (pVar 10)) (aCons (p2 ixD (pVar 2) (pVar 11)) aNil)))) (aCons (pA (callA (F_between K) 3 [2, 1, 0] []) (aLen 3 (aCons (p2 ixD (pVar 2) (pVar 11)) (aCons (p2 ixD (pVar 2) (pVar 10)) (aCons (pVar 5) aNil))))) aNil))))) (sSeq (sIf (b1 asB (p2 neD (p1 reprD (p2 addD (pVar 8) (p1 isL (pA mkL (aCons (pA (callV (F_between K)) (aCons (pVar 5) (aCons (p2 ixD (pVar 2) (pVar 11)) (aCons (p2 ixD (pVar 2) (pVar 10)) aNil)))) aNil))))) (p1 reprD (p2 mulD (p1 isL (pA mkL (aCons (pVar 7) aNil))) (pC (.int 3)))))) (sRet (pC (.bl false))) sNext) (sIf (bOr (b1 asB (p2 neD (pA (callV (F_between K)) (aCons (pVar 5) (aCons (p2 ixD (pVar 2) (pVar 10)) (aCons (p2 ixD (pVar 2) (pVar 10)) aNil)))) (pA mkT (aCons (p2 ixD (pVar 2) (pVar 10)) aNil)))) (bOr (b1 asB (p2 ninD (p2 ixD (pVar 2) (pVar 10)) (pVar 7))) (b1 asB (p2 ninD (p2 ixD (pVar 2) (pVar 11)) (pVar 7))))) (sRet (pC (.bl false))) sNext)))))) [.own 0 o, s1, .val (twD n nm), .val (tiD nm L), s4, .val (webD K n nm L), .val (.lst (distA n L)), s7, s8, s9, s10, s11, s12]) Q := by
  have N := W.N
  have hlo := N.lo
  have hhi := N.hi
  refine wp_end ?_
  refine wp_range (fun k ρ => ∃ o s4 s7 s8 s10 s11, PhOk o ∧ ρ = [.own 0 o, s1, .val (twD n nm), .val (tiD nm L), s4, .val (webD K n nm L), .val (.lst (distA n L)), s7, s8, s9, s10, s11, s12]) 6 (enc := fun k : Nat => .int k) ?_ ?_ ?_ ?_
  · exact v_range1 (n := 6) rfl (by omega)
  · exact ⟨o, _, _, _, _, _, ho, rfl⟩
  · rintro t _ ht ⟨o, s4, s7, s8, s10, s11, ho, rfl⟩
    obtain ⟨i, o1, e1, hi, ho1⟩ := drop1 ho (top := (n : Nat)) (by omega) (by omega)
    obtain ⟨j, o2, e2, hj, ho2⟩ := drop1 ho1 (top := (n : Nat)) (by omega) (by omega)
    have hi' : i < n := by omega
    have hj' : j < n := by omega
    simp -implicitDefEqProofs only [v_pVar', v_pVarQ', v_pVarR', k_v, k_vq, k_vr, k_oq, k_or, k_or2, k_vVal, k_vFr, k_par, k_set, k_aug, k_own, k_retF, k_ix, k_ix2, k_ixL, oR_s, k_app2, k_app, k_pop3, k_pop2, k_pop, k_apL2, k_apL1, k_apL, k_cal, k_calR, k_calO, k_ch1, k_ch2, k_lst, k_fldV, k_fldO, v_setF, v_pC, v_p1, v_p2, v_p3, v_aNil, v_aCons, v_pA, v_b1, v_asB, v_bAnd, v_bOr, v_bNot, v_pIf, v_pAndK, v_pOrK, v_liftE, v_e1, v_e2, v_bNil, v_bCons, v_eA, v_vNil, v_vVal, v_vFr, v_liftB, v_q1, v_qAnd, v_qOr, v_qNot, v_eIf, v_gVar, v_gTupD, v_gsNil, v_gsCons, v_pIxLL, v_gIx, v_gIx2, v_sNext, v_sNever, v_sRetN, v_sRet, v_sRetE, v_sRetF, v_sExpr, v_sExprE, v_sIf, v_sIfE, v_seq, v_asg, v_asgE, v_own, v_ownG, v_par, v_aug, v_putNil, v_putV, v_putF, v_iAdd, v_pSl, v_oNone, v_oSome, v_eApp, v_ePop, v_eAppLL, v_eCallO, v_callO, v_i1, v_pM1, v_pChain, v_pIndex, v_aLen, v_aApp, v_pFrz, v_pAO, v_gLst, v_frz0, v_frz0l, v_frzO, v_frz1, v_frzV, v_frzU, R.bind_ok, RE.bind_ok, RE.seq_ok, R.seq_ok, R.seqB_ok, RE.bindA_ok, RA.bind_ok, RA.bindE_ok, RV.bind_ok, RB.bind_ok, RB.bindE_ok, RB.seq_ok, RE.bindB_ok, upB_ok, up_ok, RS.then_nx, RS.then_rt, RS.then_rtO, RS.then_ct, RS.then_bk, o_eqI, o_neI, o_eqB, o_or1, o_or2, o_or3, o_and1, o_and2, o_and3, Int.cast_ofNat_Int, Int.reduceEq, Int.reduceLT, Int.reduceLE, Int.reduceAdd, Int.reduceSub, Int.reduceMul, Int.reduceNeg, o_add, o_sub, o_lt, o_le, o_gt, o_ge, o_int, o_abs, o_lenL, o_lenT, o_lenS, o_isN, o_isnN, n_non, n_int, n_str, n_bl, n_tup, n_lst, n_ins, o_mkT0, o_mkT1, o_mkT2, o_mkT3, o_mkL0, o_mkL1, o_mkL2, o_mkL3, o_maxD, o_minD, o_revT, o_revL, o_ixT0, o_ixT1, o_ixT2, o_isL, o_tupL, o_tupT, o_not, o_neg, ok_match, ok_match2, kt_int, kt_str, kt_bl, kt_tup, kt_lst, kt_non, kt_some, i_enumT, i_enumL, i_lst, i_tup, i_scr, List.getElem?_cons_zero, List.getElem?_cons_succ, List.set_cons_zero, List.set_cons_succ, List.length_cons, List.length_nil, List.length_set, List.map_cons, List.map_nil, List.cons_append, List.nil_append, List.append_nil, Option.bind_some, Option.map_some, Nat.reduceAdd, Nat.reduceLT, Nat.reduceSucc, Nat.zero_lt_succ, Nat.lt_add_left_iff_pos, eq_self, and_self, true_and, and_true, if_true_, if_false_, Int.toNat_natCast, ite_true, ite_false, Bool.not_true, Bool.not_false, Bool.false_eq_true, decide_true, decide_false, wpO_some, turn_nx, turn_ct, turn_bk, reduceCtorEq, Nat.succ_pos, Nat.succ_lt_succ_iff, len_tw, e1, e2]
    rw [pLc_map (fun k : Nat => .int k) (fun k => .str (nm k)) (btw n L i j)]
    rotate_left
    · simp -implicitDefEqProofs only [v_pVar', v_pVarQ', v_pVarR', k_v, k_vq, k_vr, k_oq, k_or, k_or2, k_vVal, k_vFr, k_par, k_set, k_aug, k_own, k_retF, k_ix, k_ix2, k_ixL, oR_s, k_app2, k_app, k_pop3, k_pop2, k_pop, k_apL2, k_apL1, k_apL, k_cal, k_calR, k_calO, k_ch1, k_ch2, k_lst, k_fldV, k_fldO, v_setF, v_pC, v_p1, v_p2, v_p3, v_aNil, v_aCons, v_pA, v_b1, v_asB, v_bAnd, v_bOr, v_bNot, v_pIf, v_pAndK, v_pOrK, v_liftE, v_e1, v_e2, v_bNil, v_bCons, v_eA, v_vNil, v_vVal, v_vFr, v_liftB, v_q1, v_qAnd, v_qOr, v_qNot, v_eIf, v_gVar, v_gTupD, v_gsNil, v_gsCons, v_pIxLL, v_gIx, v_gIx2, v_sNext, v_sNever, v_sRetN, v_sRet, v_sRetE, v_sRetF, v_sExpr, v_sExprE, v_sIf, v_sIfE, v_seq, v_asg, v_asgE, v_own, v_ownG, v_par, v_aug, v_putNil, v_putV, v_putF, v_iAdd, v_pSl, v_oNone, v_oSome, v_eApp, v_ePop, v_eAppLL, v_eCallO, v_callO, v_i1, v_pM1, v_pChain, v_pIndex, v_aLen, v_aApp, v_pFrz, v_pAO, v_gLst, v_frz0, v_frz0l, v_frzO, v_frz1, v_frzV, v_frzU, R.bind_ok, RE.bind_ok, RE.seq_ok, R.seq_ok, R.seqB_ok, RE.bindA_ok, RA.bind_ok, RA.bindE_ok, RV.bind_ok, RB.bind_ok, RB.bindE_ok, RB.seq_ok, RE.bindB_ok, upB_ok, up_ok, RS.then_nx, RS.then_rt, RS.then_rtO, RS.then_ct, RS.then_bk, o_eqI, o_neI, o_eqB, o_or1, o_or2, o_or3, o_and1, o_and2, o_and3, Int.cast_ofNat_Int, Int.reduceEq, Int.reduceLT, Int.reduceLE, Int.reduceAdd, Int.reduceSub, Int.reduceMul, Int.reduceNeg, o_add, o_sub, o_lt, o_le, o_gt, o_ge, o_int, o_abs, o_lenL, o_lenT, o_lenS, o_isN, o_isnN, n_non, n_int, n_str, n_bl, n_tup, n_lst, n_ins, o_mkT0, o_mkT1, o_mkT2, o_mkT3, o_mkL0, o_mkL1, o_mkL2, o_mkL3, o_maxD, o_minD, o_revT, o_revL, o_ixT0, o_ixT1, o_ixT2, o_isL, o_tupL, o_tupT, o_not, o_neg, ok_match, ok_match2, kt_int, kt_str, kt_bl, kt_tup, kt_lst, kt_non, kt_some, i_enumT, i_enumL, i_lst, i_tup, i_scr, List.getElem?_cons_zero, List.getElem?_cons_succ, List.set_cons_zero, List.set_cons_succ, List.length_cons, List.length_nil, List.length_set, List.map_cons, List.map_nil, List.cons_append, List.nil_append, List.append_nil, Option.bind_some, Option.map_some, Nat.reduceAdd, Nat.reduceLT, Nat.reduceSucc, Nat.zero_lt_succ, Nat.lt_add_left_iff_pos, eq_self, and_self, true_and, and_true, if_true_, if_false_, Int.toNat_natCast, ite_true, ite_false, Bool.not_true, Bool.not_false, Bool.false_eq_true, decide_true, decide_false, wpO_some, turn_nx, turn_ct, turn_bk, reduceCtorEq, Nat.succ_pos, Nat.succ_lt_succ_iff, on_ways_c W hi' hj']; rfl
    · intro k hk'
      refine ⟨_, rfl, rfl, ?_⟩
      simp -implicitDefEqProofs only [v_pVar', v_pVarQ', v_pVarR', k_v, k_vq, k_vr, k_oq, k_or, k_or2, k_vVal, k_vFr, k_par, k_set, k_aug, k_own, k_retF, k_ix, k_ix2, k_ixL, oR_s, k_app2, k_app, k_pop3, k_pop2, k_pop, k_apL2, k_apL1, k_apL, k_cal, k_calR, k_calO, k_ch1, k_ch2, k_lst, k_fldV, k_fldO, v_setF, v_pC, v_p1, v_p2, v_p3, v_aNil, v_aCons, v_pA, v_b1, v_asB, v_bAnd, v_bOr, v_bNot, v_pIf, v_pAndK, v_pOrK, v_liftE, v_e1, v_e2, v_bNil, v_bCons, v_eA, v_vNil, v_vVal, v_vFr, v_liftB, v_q1, v_qAnd, v_qOr, v_qNot, v_eIf, v_gVar, v_gTupD, v_gsNil, v_gsCons, v_pIxLL, v_gIx, v_gIx2, v_sNext, v_sNever, v_sRetN, v_sRet, v_sRetE, v_sRetF, v_sExpr, v_sExprE, v_sIf, v_sIfE, v_seq, v_asg, v_asgE, v_own, v_ownG, v_par, v_aug, v_putNil, v_putV, v_putF, v_iAdd, v_pSl, v_oNone, v_oSome, v_eApp, v_ePop, v_eAppLL, v_eCallO, v_callO, v_i1, v_pM1, v_pChain, v_pIndex, v_aLen, v_aApp, v_pFrz, v_pAO, v_gLst, v_frz0, v_frz0l, v_frzO, v_frz1, v_frzV, v_frzU, R.bind_ok, RE.bind_ok, RE.seq_ok, R.seq_ok, R.seqB_ok, RE.bindA_ok, RA.bind_ok, RA.bindE_ok, RV.bind_ok, RB.bind_ok, RB.bindE_ok, RB.seq_ok, RE.bindB_ok, upB_ok, up_ok, RS.then_nx, RS.then_rt, RS.then_rtO, RS.then_ct, RS.then_bk, o_eqI, o_neI, o_eqB, o_or1, o_or2, o_or3, o_and1, o_and2, o_and3, Int.cast_ofNat_Int, Int.reduceEq, Int.reduceLT, Int.reduceLE, Int.reduceAdd, Int.reduceSub, Int.reduceMul, Int.reduceNeg, o_add, o_sub, o_lt, o_le, o_gt, o_ge, o_int, o_abs, o_lenL, o_lenT, o_lenS, o_isN, o_isnN, n_non, n_int, n_str, n_bl, n_tup, n_lst, n_ins, o_mkT0, o_mkT1, o_mkT2, o_mkT3, o_mkL0, o_mkL1, o_mkL2, o_mkL3, o_maxD, o_minD, o_revT, o_revL, o_ixT0, o_ixT1, o_ixT2, o_isL, o_tupL, o_tupT, o_not, o_neg, ok_match, ok_match2, kt_int, kt_str, kt_bl, kt_tup, kt_lst, kt_non, kt_some, i_enumT, i_enumL, i_lst, i_tup, i_scr, List.getElem?_cons_zero, List.getElem?_cons_succ, List.set_cons_zero, List.set_cons_succ, List.length_cons, List.length_nil, List.length_set, List.map_cons, List.map_nil, List.cons_append, List.nil_append, List.append_nil, Option.bind_some, Option.map_some, Nat.reduceAdd, Nat.reduceLT, Nat.reduceSucc, Nat.zero_lt_succ, Nat.lt_add_left_iff_pos, eq_self, and_self, true_and, and_true, if_true_, if_false_, Int.toNat_natCast, ite_true, ite_false, Bool.not_true, Bool.not_false, Bool.false_eq_true, decide_true, decide_false, wpO_some, turn_nx, turn_ct, turn_bk, reduceCtorEq, Nat.succ_pos, Nat.succ_lt_succ_iff, wipeS, ix_tw (nm := nm) (mem_btw.mp hk').1]
    · have := btw_len n L i j; omega
    have hmem : ∀ k ∈ btw n L i j, k < n := fun k h => (mem_btw.mp h).1
    have hl := btw_len n L i j
    have swN := N.swN hmem
    have b1 := between_c (L := L) N hk hi' hj'
    have b2 := between_c (L := L) N hk hj' hi'
    have b3 := between_c (L := L) N hk hi' hi'
    rw [btw_symm] at b2
    rw [btw_self W hi'] at b3
    have en : List.map (fun k => D.str (nm k)) (btw n L i j) = nmA nm (btw n L i j) := rfl
    have e1' : List.map (fun k => D.str (nm k)) [i] = [.str (nm i)] := rfl
    rw [en] at b1 b2
    rw [e1'] at b3
    have ea : addD (.lst [.tup (nmA nm (btw n L i j)), .tup (nmA nm (btw n L i j))]) (.lst [.tup (nmA nm (btw n L i j))]) = .ok (.lst [.tup (nmA nm (btw n L i j)), .tup (nmA nm (btw n L i j)), .tup (nmA nm (btw n L i j))]) := add_lst (by simp)
    have rp := (sw_lst (xs := [.tup (nmA nm (btw n L i j)), .tup (nmA nm (btw n L i j)), .tup (nmA nm (btw n L i j))]) fun x hx => by
      simp at hx; subst hx; exact swN).repr (by omega) (by simp only [List.length_cons, List.length_nil]; omega)
    have n1 : neD (.tup [.str (nm i)]) (.tup [.str (nm i)]) = .ok (.bl false) := ne_same (k := 1) (sd_tup fun x hx => by simp at hx; subst hx; exact N.sd hi') (by omega)
    have n2 := N.ninN hmem hi'
    have n3 := N.ninN hmem hj'
    rw [decide_eq_true (btw_ends hi' hj').1] at n2
    rw [decide_eq_true (btw_ends hi' hj').2] at n3
    simp -implicitDefEqProofs only [v_pVar', v_pVarQ', v_pVarR', k_v, k_vq, k_vr, k_oq, k_or, k_or2, k_vVal, k_vFr, k_par, k_set, k_aug, k_own, k_retF, k_ix, k_ix2, k_ixL, oR_s, k_app2, k_app, k_pop3, k_pop2, k_pop, k_apL2, k_apL1, k_apL, k_cal, k_calR, k_calO, k_ch1, k_ch2, k_lst, k_fldV, k_fldO, v_setF, v_pC, v_p1, v_p2, v_p3, v_aNil, v_aCons, v_pA, v_b1, v_asB, v_bAnd, v_bOr, v_bNot, v_pIf, v_pAndK, v_pOrK, v_liftE, v_e1, v_e2, v_bNil, v_bCons, v_eA, v_vNil, v_vVal, v_vFr, v_liftB, v_q1, v_qAnd, v_qOr, v_qNot, v_eIf, v_gVar, v_gTupD, v_gsNil, v_gsCons, v_pIxLL, v_gIx, v_gIx2, v_sNext, v_sNever, v_sRetN, v_sRet, v_sRetE, v_sRetF, v_sExpr, v_sExprE, v_sIf, v_sIfE, v_seq, v_asg, v_asgE, v_own, v_ownG, v_par, v_aug, v_putNil, v_putV, v_putF, v_iAdd, v_pSl, v_oNone, v_oSome, v_eApp, v_ePop, v_eAppLL, v_eCallO, v_callO, v_i1, v_pM1, v_pChain, v_pIndex, v_aLen, v_aApp, v_pFrz, v_pAO, v_gLst, v_frz0, v_frz0l, v_frzO, v_frz1, v_frzV, v_frzU, R.bind_ok, RE.bind_ok, RE.seq_ok, R.seq_ok, R.seqB_ok, RE.bindA_ok, RA.bind_ok, RA.bindE_ok, RV.bind_ok, RB.bind_ok, RB.bindE_ok, RB.seq_ok, RE.bindB_ok, upB_ok, up_ok, RS.then_nx, RS.then_rt, RS.then_rtO, RS.then_ct, RS.then_bk, o_eqI, o_neI, o_eqB, o_or1, o_or2, o_or3, o_and1, o_and2, o_and3, Int.cast_ofNat_Int, Int.reduceEq, Int.reduceLT, Int.reduceLE, Int.reduceAdd, Int.reduceSub, Int.reduceMul, Int.reduceNeg, o_add, o_sub, o_lt, o_le, o_gt, o_ge, o_int, o_abs, o_lenL, o_lenT, o_lenS, o_isN, o_isnN, n_non, n_int, n_str, n_bl, n_tup, n_lst, n_ins, o_mkT0, o_mkT1, o_mkT2, o_mkT3, o_mkL0, o_mkL1, o_mkL2, o_mkL3, o_maxD, o_minD, o_revT, o_revL, o_ixT0, o_ixT1, o_ixT2, o_isL, o_tupL, o_tupT, o_not, o_neg, ok_match, ok_match2, kt_int, kt_str, kt_bl, kt_tup, kt_lst, kt_non, kt_some, i_enumT, i_enumL, i_lst, i_tup, i_scr, List.getElem?_cons_zero, List.getElem?_cons_succ, List.set_cons_zero, List.set_cons_succ, List.length_cons, List.length_nil, List.length_set, List.map_cons, List.map_nil, List.cons_append, List.nil_append, List.append_nil, Option.bind_some, Option.map_some, Nat.reduceAdd, Nat.reduceLT, Nat.reduceSucc, Nat.zero_lt_succ, Nat.lt_add_left_iff_pos, eq_self, and_self, true_and, and_true, if_true_, if_false_, Int.toNat_natCast, ite_true, ite_false, Bool.not_true, Bool.not_false, Bool.false_eq_true, decide_true, decide_false, wpO_some, turn_nx, turn_ct, turn_bk, reduceCtorEq, Nat.succ_pos, Nat.succ_lt_succ_iff, en, ix_tw (nm := nm) hi', ix_tw (nm := nm) hj', b1, callA_321, b2, ea, mul3, rp, ne_str_same, b3, n1, n2, n3]
    exact ⟨o2, _, _, _, _, _, ho2, rfl⟩
  · rintro _ ⟨o, s4, s7, s8, s10, s11, ho, rfl⟩
    exact h o _ _ _ _ _ ho
theorem right10 {o : Ow} (ho : PhOk o) : Wp (m__law_right__v2 K [.own 0 o, .un, .un, .un, .un, .un, .un, .un, .un, .un, .un, .un, .un]) (isRt (.bl true)) := by
  unfold m__law_right__v2
  rw [v_seq]
  refine wp_range (fun k ρ => ∃ o s1 s2 s3 s4 s5 s6 s7 s8 s9 s10 s11 s12, PhOk o ∧ ρ = [.own 0 o, s1, s2, s3, s4, s5, s6, s7, s8, s9, s10, s11, s12]) 4 (v_range1 (n := 4) rfl (by omega)) ?_ ?_ ?_
  · exact ⟨o, _, _, _, _, _, _, _, _, _, _, _, _, ho, rfl⟩
  · rintro t _ ht ⟨o, s1, s2, s3, s4, s5, s6, s7, s8, s9, s10, s11, s12, ho, rfl⟩
    obtain ⟨n, nm, o1, h1, N, hn1, hn2, ho1⟩ := tags_c ho (lo := 1) (hi := 10) (by omega) (by omega) (by omega)
    have e1 : F__law_tags [.own 1 o, .val (.int 1), .val (.int 10)] = .ok (.rt (twD n nm)) [.own 1 o1, .val (.int 1), .val (.int 10)] := h1
    obtain ⟨L, o2, h2, ho2, T, H, hl⟩ := links_c N ho1 (more := 10) (by omega)
    have e2 : F__law_links [.own 1 o1, .val (twD n nm), .val (.int 10)] = .ok (.rt (tiD nm L)) [.own 1 o2, .val (twD n nm), .val (.int 10)] := h2
    have W : Wb n nm L := ⟨N, T, by omega, H⟩
    by_cases c0 : (t : Int) = 0
    · obtain ⟨w, m, o3, e3, hw, hm1, hm2, ho3⟩ := known_c ho2
      have W2 := kn_wb hw hm1 hm2
      have a1 := mk_web (K := K) W2
      have a2 := spans_c W2.N W2.T
      simp -implicitDefEqProofs only [v_pVar', v_pVarQ', v_pVarR', k_v, k_vq, k_vr, k_oq, k_or, k_or2, k_vVal, k_vFr, k_par, k_set, k_aug, k_own, k_retF, k_ix, k_ix2, k_ixL, oR_s, k_app2, k_app, k_pop3, k_pop2, k_pop, k_apL2, k_apL1, k_apL, k_cal, k_calR, k_calO, k_ch1, k_ch2, k_lst, k_fldV, k_fldO, v_setF, v_pC, v_p1, v_p2, v_p3, v_aNil, v_aCons, v_pA, v_b1, v_asB, v_bAnd, v_bOr, v_bNot, v_pIf, v_pAndK, v_pOrK, v_liftE, v_e1, v_e2, v_bNil, v_bCons, v_eA, v_vNil, v_vVal, v_vFr, v_liftB, v_q1, v_qAnd, v_qOr, v_qNot, v_eIf, v_gVar, v_gTupD, v_gsNil, v_gsCons, v_pIxLL, v_gIx, v_gIx2, v_sNext, v_sNever, v_sRetN, v_sRet, v_sRetE, v_sRetF, v_sExpr, v_sExprE, v_sIf, v_sIfE, v_seq, v_asg, v_asgE, v_own, v_ownG, v_par, v_aug, v_putNil, v_putV, v_putF, v_iAdd, v_pSl, v_oNone, v_oSome, v_eApp, v_ePop, v_eAppLL, v_eCallO, v_callO, v_i1, v_pM1, v_pChain, v_pIndex, v_aLen, v_aApp, v_pFrz, v_pAO, v_gLst, v_frz0, v_frz0l, v_frzO, v_frz1, v_frzV, v_frzU, R.bind_ok, RE.bind_ok, RE.seq_ok, R.seq_ok, R.seqB_ok, RE.bindA_ok, RA.bind_ok, RA.bindE_ok, RV.bind_ok, RB.bind_ok, RB.bindE_ok, RB.seq_ok, RE.bindB_ok, upB_ok, up_ok, RS.then_nx, RS.then_rt, RS.then_rtO, RS.then_ct, RS.then_bk, o_eqI, o_neI, o_eqB, o_or1, o_or2, o_or3, o_and1, o_and2, o_and3, Int.cast_ofNat_Int, Int.reduceEq, Int.reduceLT, Int.reduceLE, Int.reduceAdd, Int.reduceSub, Int.reduceMul, Int.reduceNeg, o_add, o_sub, o_lt, o_le, o_gt, o_ge, o_int, o_abs, o_lenL, o_lenT, o_lenS, o_isN, o_isnN, n_non, n_int, n_str, n_bl, n_tup, n_lst, n_ins, o_mkT0, o_mkT1, o_mkT2, o_mkT3, o_mkL0, o_mkL1, o_mkL2, o_mkL3, o_maxD, o_minD, o_revT, o_revL, o_ixT0, o_ixT1, o_ixT2, o_isL, o_tupL, o_tupT, o_not, o_neg, ok_match, ok_match2, kt_int, kt_str, kt_bl, kt_tup, kt_lst, kt_non, kt_some, i_enumT, i_enumL, i_lst, i_tup, i_scr, List.getElem?_cons_zero, List.getElem?_cons_succ, List.set_cons_zero, List.set_cons_succ, List.length_cons, List.length_nil, List.length_set, List.map_cons, List.map_nil, List.cons_append, List.nil_append, List.append_nil, Option.bind_some, Option.map_some, Nat.reduceAdd, Nat.reduceLT, Nat.reduceSucc, Nat.zero_lt_succ, Nat.lt_add_left_iff_pos, eq_self, and_self, true_and, and_true, if_true_, if_false_, Int.toNat_natCast, ite_true, ite_false, Bool.not_true, Bool.not_false, Bool.false_eq_true, decide_true, decide_false, wpO_some, turn_nx, turn_ct, turn_bk, reduceCtorEq, Nat.succ_pos, Nat.succ_lt_succ_iff, e1, e2, c0, e3, a1, can_ins, d_ins, web_ins, a2]
      exact inner10 hk W2 ho3 fun o s4 s7 s8 s10 s11 ho => ⟨o, _, _, _, _, _, _, _, _, _, _, _, _, ho, rfl⟩
    · have a1 := mk_web (K := K) W
      have a2 := spans_c N T
      simp -implicitDefEqProofs only [v_pVar', v_pVarQ', v_pVarR', k_v, k_vq, k_vr, k_oq, k_or, k_or2, k_vVal, k_vFr, k_par, k_set, k_aug, k_own, k_retF, k_ix, k_ix2, k_ixL, oR_s, k_app2, k_app, k_pop3, k_pop2, k_pop, k_apL2, k_apL1, k_apL, k_cal, k_calR, k_calO, k_ch1, k_ch2, k_lst, k_fldV, k_fldO, v_setF, v_pC, v_p1, v_p2, v_p3, v_aNil, v_aCons, v_pA, v_b1, v_asB, v_bAnd, v_bOr, v_bNot, v_pIf, v_pAndK, v_pOrK, v_liftE, v_e1, v_e2, v_bNil, v_bCons, v_eA, v_vNil, v_vVal, v_vFr, v_liftB, v_q1, v_qAnd, v_qOr, v_qNot, v_eIf, v_gVar, v_gTupD, v_gsNil, v_gsCons, v_pIxLL, v_gIx, v_gIx2, v_sNext, v_sNever, v_sRetN, v_sRet, v_sRetE, v_sRetF, v_sExpr, v_sExprE, v_sIf, v_sIfE, v_seq, v_asg, v_asgE, v_own, v_ownG, v_par, v_aug, v_putNil, v_putV, v_putF, v_iAdd, v_pSl, v_oNone, v_oSome, v_eApp, v_ePop, v_eAppLL, v_eCallO, v_callO, v_i1, v_pM1, v_pChain, v_pIndex, v_aLen, v_aApp, v_pFrz, v_pAO, v_gLst, v_frz0, v_frz0l, v_frzO, v_frz1, v_frzV, v_frzU, R.bind_ok, RE.bind_ok, RE.seq_ok, R.seq_ok, R.seqB_ok, RE.bindA_ok, RA.bind_ok, RA.bindE_ok, RV.bind_ok, RB.bind_ok, RB.bindE_ok, RB.seq_ok, RE.bindB_ok, upB_ok, up_ok, RS.then_nx, RS.then_rt, RS.then_rtO, RS.then_ct, RS.then_bk, o_eqI, o_neI, o_eqB, o_or1, o_or2, o_or3, o_and1, o_and2, o_and3, Int.cast_ofNat_Int, Int.reduceEq, Int.reduceLT, Int.reduceLE, Int.reduceAdd, Int.reduceSub, Int.reduceMul, Int.reduceNeg, o_add, o_sub, o_lt, o_le, o_gt, o_ge, o_int, o_abs, o_lenL, o_lenT, o_lenS, o_isN, o_isnN, n_non, n_int, n_str, n_bl, n_tup, n_lst, n_ins, o_mkT0, o_mkT1, o_mkT2, o_mkT3, o_mkL0, o_mkL1, o_mkL2, o_mkL3, o_maxD, o_minD, o_revT, o_revL, o_ixT0, o_ixT1, o_ixT2, o_isL, o_tupL, o_tupT, o_not, o_neg, ok_match, ok_match2, kt_int, kt_str, kt_bl, kt_tup, kt_lst, kt_non, kt_some, i_enumT, i_enumL, i_lst, i_tup, i_scr, List.getElem?_cons_zero, List.getElem?_cons_succ, List.set_cons_zero, List.set_cons_succ, List.length_cons, List.length_nil, List.length_set, List.map_cons, List.map_nil, List.cons_append, List.nil_append, List.append_nil, Option.bind_some, Option.map_some, Nat.reduceAdd, Nat.reduceLT, Nat.reduceSucc, Nat.zero_lt_succ, Nat.lt_add_left_iff_pos, eq_self, and_self, true_and, and_true, if_true_, if_false_, Int.toNat_natCast, ite_true, ite_false, Bool.not_true, Bool.not_false, Bool.false_eq_true, decide_true, decide_false, wpO_some, turn_nx, turn_ct, turn_bk, reduceCtorEq, Nat.succ_pos, Nat.succ_lt_succ_iff, e1, e2, c0, a1, can_ins, d_ins, web_ins, a2]
      exact inner10 hk W ho2 fun o s4 s7 s8 s10 s11 ho => ⟨o, _, _, _, _, _, _, _, _, _, _, _, _, ho, rfl⟩
  · rintro _ ⟨o, s1, s2, s3, s4, s5, s6, s7, s8, s9, s10, s11, s12, ho, rfl⟩
    simp -implicitDefEqProofs only [v_pVar', v_pVarQ', v_pVarR', k_v, k_vq, k_vr, k_oq, k_or, k_or2, k_vVal, k_vFr, k_par, k_set, k_aug, k_own, k_retF, k_ix, k_ix2, k_ixL, oR_s, k_app2, k_app, k_pop3, k_pop2, k_pop, k_apL2, k_apL1, k_apL, k_cal, k_calR, k_calO, k_ch1, k_ch2, k_lst, k_fldV, k_fldO, v_setF, v_pC, v_p1, v_p2, v_p3, v_aNil, v_aCons, v_pA, v_b1, v_asB, v_bAnd, v_bOr, v_bNot, v_pIf, v_pAndK, v_pOrK, v_liftE, v_e1, v_e2, v_bNil, v_bCons, v_eA, v_vNil, v_vVal, v_vFr, v_liftB, v_q1, v_qAnd, v_qOr, v_qNot, v_eIf, v_gVar, v_gTupD, v_gsNil, v_gsCons, v_pIxLL, v_gIx, v_gIx2, v_sNext, v_sNever, v_sRetN, v_sRet, v_sRetE, v_sRetF, v_sExpr, v_sExprE, v_sIf, v_sIfE, v_seq, v_asg, v_asgE, v_own, v_ownG, v_par, v_aug, v_putNil, v_putV, v_putF, v_iAdd, v_pSl, v_oNone, v_oSome, v_eApp, v_ePop, v_eAppLL, v_eCallO, v_callO, v_i1, v_pM1, v_pChain, v_pIndex, v_aLen, v_aApp, v_pFrz, v_pAO, v_gLst, v_frz0, v_frz0l, v_frzO, v_frz1, v_frzV, v_frzU, R.bind_ok, RE.bind_ok, RE.seq_ok, R.seq_ok, R.seqB_ok, RE.bindA_ok, RA.bind_ok, RA.bindE_ok, RV.bind_ok, RB.bind_ok, RB.bindE_ok, RB.seq_ok, RE.bindB_ok, upB_ok, up_ok, RS.then_nx, RS.then_rt, RS.then_rtO, RS.then_ct, RS.then_bk, o_eqI, o_neI, o_eqB, o_or1, o_or2, o_or3, o_and1, o_and2, o_and3, Int.cast_ofNat_Int, Int.reduceEq, Int.reduceLT, Int.reduceLE, Int.reduceAdd, Int.reduceSub, Int.reduceMul, Int.reduceNeg, o_add, o_sub, o_lt, o_le, o_gt, o_ge, o_int, o_abs, o_lenL, o_lenT, o_lenS, o_isN, o_isnN, n_non, n_int, n_str, n_bl, n_tup, n_lst, n_ins, o_mkT0, o_mkT1, o_mkT2, o_mkT3, o_mkL0, o_mkL1, o_mkL2, o_mkL3, o_maxD, o_minD, o_revT, o_revL, o_ixT0, o_ixT1, o_ixT2, o_isL, o_tupL, o_tupT, o_not, o_neg, ok_match, ok_match2, kt_int, kt_str, kt_bl, kt_tup, kt_lst, kt_non, kt_some, i_enumT, i_enumL, i_lst, i_tup, i_scr, List.getElem?_cons_zero, List.getElem?_cons_succ, List.set_cons_zero, List.set_cons_succ, List.length_cons, List.length_nil, List.length_set, List.map_cons, List.map_nil, List.cons_append, List.nil_append, List.append_nil, Option.bind_some, Option.map_some, Nat.reduceAdd, Nat.reduceLT, Nat.reduceSucc, Nat.zero_lt_succ, Nat.lt_add_left_iff_pos, eq_self, and_self, true_and, and_true, if_true_, if_false_, Int.toNat_natCast, ite_true, ite_false, Bool.not_true, Bool.not_false, Bool.false_eq_true, decide_true, decide_false, wpO_some, turn_nx, turn_ct, turn_bk, reduceCtorEq, Nat.succ_pos, Nat.succ_lt_succ_iff]
    exact isRt_ok
end
theorem law10 {K : Fg} (hk : KW K) (ns : List Int) : ∃ ρ, F_law__v2 K [.val (.scr ns)] = .ok (.rt (.bl true)) ρ :=
  law_of (F := F__law_right__v2 K) (nl := 12) (k := 5) rfl ns (fun o ho => right10 hk ho) (by omega)
end MA

set_option Elab.async false
set_option linter.all false
set_option maxRecDepth 100000
set_option maxHeartbeats 0
namespace Lk10
open PySem PySem.Spec PyProof.Rows L2 He DL DM
def top (i : Nat) : Stmt := PySem.Challenge.pw_bitplaces_k10_whole_towns_between.main.body.getD i (.Pass ⟨0, 0, 0, 0⟩)
def mem (i j : Nat) : Stmt := match top i with
  | .ClassDef _ _ _ b _ _ _ _ _ _ _ => b.getD j (.Pass ⟨0, 0, 0, 0⟩)
  | s => s
def clss (K : Fg) : List Addr := [ga K "Web"]
abbrev N__law_drop : List Str := ["_law_phial", "_law_top", "_law_base", "_law_got"]
abbrev s__law_drop : Stmt := (top 38)
theorem sc__law_drop : FnScope N__law_drop ["_law_phial", "_law_top"] (defScope s__law_drop) := ⟨rfl, rfl, rfl, by decide +kernel, rfl, by decide +kernel, by decide +kernel⟩
def d__law_drop : Df := ⟨(.glo "_law_drop"), "_law_drop", "_law_drop", defArgs s__law_drop, defBody s__law_drop, defScope s__law_drop, []⟩
abbrev N__law_tags : List Str := ["_law_phial", "_law_least", "_law_most", "_law_pool", "_law_found", "_law_turn"]
abbrev s__law_tags : Stmt := (top 40)
theorem sc__law_tags : FnScope N__law_tags ["_law_phial", "_law_least", "_law_most"] (defScope s__law_tags) := ⟨rfl, rfl, rfl, by decide +kernel, rfl, by decide +kernel, by decide +kernel⟩
def d__law_tags : Df := ⟨(.glo "_law_tags"), "_law_tags", "_law_tags", defArgs s__law_tags, defBody s__law_tags, defScope s__law_tags, []⟩
abbrev N__law_from : List Str := ["_law_phial", "_law_menu"]
abbrev s__law_from : Stmt := (top 39)
theorem sc__law_from : FnScope N__law_from ["_law_phial", "_law_menu"] (defScope s__law_from) := ⟨rfl, rfl, rfl, by decide +kernel, rfl, by decide +kernel, by decide +kernel⟩
def d__law_from : Df := ⟨(.glo "_law_from"), "_law_from", "_law_from", defArgs s__law_from, defBody s__law_from, defScope s__law_from, []⟩
abbrev N__law_links : List Str := ["_law_phial", "_law_tags_here", "_law_more", "_law_found", "_law_k", "_law_turn", "_law_mixed", "_law_pair", "_law_a", "_law_b"]
abbrev s__law_links : Stmt := (top 41)
theorem sc__law_links : FnScope N__law_links ["_law_phial", "_law_tags_here", "_law_more"] (defScope s__law_links) := ⟨rfl, rfl, rfl, by decide +kernel, rfl, by decide +kernel, by decide +kernel⟩
def d__law_links : Df := ⟨(.glo "_law_links"), "_law_links", "_law_links", defArgs s__law_links, defBody s__law_links, defScope s__law_links, []⟩
abbrev N__law_known : List Str := ["_law_phial", "_law_tags_here", "_law_found", "_law_k", "_law_word", "_law_n", "_law_step", "_law_j"]
abbrev s__law_known : Stmt := (top 43)
theorem sc__law_known : FnScope N__law_known ["_law_phial"] (defScope s__law_known) := ⟨rfl, rfl, rfl, by decide +kernel, rfl, by decide +kernel, by decide +kernel⟩
def d__law_known : Df := ⟨(.glo "_law_known"), "_law_known", "_law_known", defArgs s__law_known, defBody s__law_known, defScope s__law_known, []⟩
abbrev N__law_spans : List Str := ["_law_tags_here", "_law_links_here", "_law_many_here", "_law_found", "_law_k", "_law_a", "_law_b", "_law_i", "_law_j"]
abbrev s__law_spans : Stmt := (top 42)
theorem sc__law_spans : FnScope N__law_spans ["_law_tags_here", "_law_links_here"] (defScope s__law_spans) := ⟨rfl, rfl, rfl, by decide +kernel, rfl, by decide +kernel, by decide +kernel⟩
def d__law_spans : Df := ⟨(.glo "_law_spans"), "_law_spans", "_law_spans", defArgs s__law_spans, defBody s__law_spans, defScope s__law_spans, []⟩
abbrev N_is_name : List Str := ["value", "sign"]
abbrev s_is_name : Stmt := (top 17)
theorem sc_is_name : FnScope N_is_name ["value"] (defScope s_is_name) := ⟨rfl, rfl, rfl, by decide +kernel, rfl, by decide +kernel, by decide +kernel⟩
def d_is_name : Df := ⟨(.glo "is_name"), "is_name", "is_name", defArgs s_is_name, defBody s_is_name, defScope s_is_name, []⟩
abbrev N_wrong_town : List Str := ["towns", "at", "name"]
abbrev s_wrong_town : Stmt := (top 19)
theorem sc_wrong_town : FnScope N_wrong_town ["towns"] (defScope s_wrong_town) := ⟨rfl, rfl, rfl, by decide +kernel, rfl, by decide +kernel, by decide +kernel⟩
def d_wrong_town : Df := ⟨(.glo "wrong_town"), "wrong_town", "wrong_town", defArgs s_wrong_town, defBody s_wrong_town, defScope s_wrong_town, []⟩
abbrev N_is_pair : List Str := ["towns", "value"]
abbrev s_is_pair : Stmt := (top 20)
theorem sc_is_pair : FnScope N_is_pair ["towns", "value"] (defScope s_is_pair) := ⟨rfl, rfl, rfl, by decide +kernel, rfl, by decide +kernel, by decide +kernel⟩
def d_is_pair : Df := ⟨(.glo "is_pair"), "is_pair", "is_pair", defArgs s_is_pair, defBody s_is_pair, defScope s_is_pair, []⟩
abbrev N_is_tied : List Str := ["ties", "one", "two"]
abbrev s_is_tied : Stmt := (top 21)
theorem sc_is_tied : FnScope N_is_tied ["ties", "one", "two"] (defScope s_is_tied) := ⟨rfl, rfl, rfl, by decide +kernel, rfl, by decide +kernel, by decide +kernel⟩
def d_is_tied : Df := ⟨(.glo "is_tied"), "is_tied", "is_tied", defArgs s_is_tied, defBody s_is_tied, defScope s_is_tied, []⟩
abbrev N_wrong_tie : List Str := ["towns", "ties", "at", "tie"]
abbrev s_wrong_tie : Stmt := (top 22)
theorem sc_wrong_tie : FnScope N_wrong_tie ["towns", "ties"] (defScope s_wrong_tie) := ⟨rfl, rfl, rfl, by decide +kernel, rfl, by decide +kernel, by decide +kernel⟩
def d_wrong_tie : Df := ⟨(.glo "wrong_tie"), "wrong_tie", "wrong_tie", defArgs s_wrong_tie, defBody s_wrong_tie, defScope s_wrong_tie, []⟩
abbrev N_distances_from : List Str := ["near", "start", "found", "row", "far", "later", "place", "other"]
abbrev s_distances_from : Stmt := (top 24)
theorem sc_distances_from : FnScope N_distances_from ["near", "start"] (defScope s_distances_from) := ⟨rfl, rfl, rfl, by decide +kernel, rfl, by decide +kernel, by decide +kernel⟩
def d_distances_from : Df := ⟨(.glo "distances_from"), "distances_from", "distances_from", defArgs s_distances_from, defBody s_distances_from, defScope s_distances_from, []⟩
abbrev N_neighbours : List Str := ["towns", "ties", "found", "one", "two", "town", "first", "second"]
abbrev s_neighbours : Stmt := (top 23)
theorem sc_neighbours : FnScope N_neighbours ["towns", "ties"] (defScope s_neighbours) := ⟨rfl, rfl, rfl, by decide +kernel, rfl, by decide +kernel, by decide +kernel⟩
def d_neighbours : Df := ⟨(.glo "neighbours"), "neighbours", "neighbours", defArgs s_neighbours, defBody s_neighbours, defScope s_neighbours, []⟩
abbrev N_first_apart : List Str := ["towns", "ties", "row"]
abbrev s_first_apart : Stmt := (top 26)
theorem sc_first_apart : FnScope N_first_apart ["towns", "ties"] (defScope s_first_apart) := ⟨rfl, rfl, rfl, by decide +kernel, rfl, by decide +kernel, by decide +kernel⟩
def d_first_apart : Df := ⟨(.glo "first_apart"), "first_apart", "first_apart", defArgs s_first_apart, defBody s_first_apart, defScope s_first_apart, []⟩
abbrev N_all_distances : List Str := ["towns", "ties", "near", "start"]
abbrev s_all_distances : Stmt := (top 25)
theorem sc_all_distances : FnScope N_all_distances ["towns", "ties"] (defScope s_all_distances) := ⟨rfl, rfl, rfl, by decide +kernel, rfl, by decide +kernel, by decide +kernel⟩
def d_all_distances : Df := ⟨(.glo "all_distances"), "all_distances", "all_distances", defArgs s_all_distances, defBody s_all_distances, defScope s_all_distances, []⟩
abbrev N_Web___init__ : List Str := ["self", "towns", "ties", "wrong", "far", "one", "two"]
abbrev s_Web___init__ : Stmt := (mem 29 0)
theorem sc_Web___init__ : FnScope N_Web___init__ ["self", "towns", "ties"] (defScope s_Web___init__) := ⟨rfl, rfl, rfl, by decide +kernel, rfl, by decide +kernel, by decide +kernel⟩
def d_Web___init__ : Df := ⟨(.mem "Web" "__init__"), "__init__", "Web.__init__", defArgs s_Web___init__, defBody s_Web___init__, defScope s_Web___init__, [.adr (dflAt ("Web", some "__init__") 0)]⟩
abbrev N__law_on_ways : List Str := ["_law_tags_here", "_law_links_here", "_law_found", "_law_i", "_law_j", "_law_step", "_law_row", "_law_seen_here", "_law_later", "_law_k", "_law_a", "_law_b", "_law_pair"]
abbrev s__law_on_ways : Stmt := (top 44)
theorem sc__law_on_ways : FnScope N__law_on_ways ["_law_tags_here", "_law_links_here", "_law_found", "_law_i", "_law_j"] (defScope s__law_on_ways) := ⟨rfl, rfl, rfl, by decide +kernel, rfl, by decide +kernel, by decide +kernel⟩
def d__law_on_ways : Df := ⟨(.glo "_law_on_ways"), "_law_on_ways", "_law_on_ways", defArgs s__law_on_ways, defBody s__law_on_ways, defScope s__law_on_ways, []⟩
abbrev N_check_web : List Str := ["value"]
abbrev s_check_web : Stmt := (top 30)
theorem sc_check_web : FnScope N_check_web ["value"] (defScope s_check_web) := ⟨rfl, rfl, rfl, by decide +kernel, rfl, by decide +kernel, by decide +kernel⟩
def d_check_web : Df := ⟨(.glo "check_web"), "check_web", "check_web", defArgs s_check_web, defBody s_check_web, defScope s_check_web, []⟩
abbrev N_Web_towns : List Str := ["self"]
abbrev s_Web_towns : Stmt := (mem 29 2)
theorem sc_Web_towns : FnScope N_Web_towns ["self"] (defScope s_Web_towns) := ⟨rfl, rfl, rfl, by decide +kernel, rfl, by decide +kernel, by decide +kernel⟩
def d_Web_towns : Df := ⟨(.via "property" "Web" "towns"), "towns", "Web.towns", defArgs s_Web_towns, defBody s_Web_towns, defScope s_Web_towns, []⟩
abbrev N_place_of : List Str := ["web", "name"]
abbrev s_place_of : Stmt := (top 31)
theorem sc_place_of : FnScope N_place_of ["web", "name"] (defScope s_place_of) := ⟨rfl, rfl, rfl, by decide +kernel, rfl, by decide +kernel, by decide +kernel⟩
def d_place_of : Df := ⟨(.glo "place_of"), "place_of", "place_of", defArgs s_place_of, defBody s_place_of, defScope s_place_of, []⟩
abbrev N_two_places : List Str := ["web", "one", "two"]
abbrev s_two_places : Stmt := (top 32)
theorem sc_two_places : FnScope N_two_places ["web", "one", "two"] (defScope s_two_places) := ⟨rfl, rfl, rfl, by decide +kernel, rfl, by decide +kernel, by decide +kernel⟩
def d_two_places : Df := ⟨(.glo "two_places"), "two_places", "two_places", defArgs s_two_places, defBody s_two_places, defScope s_two_places, []⟩
abbrev N_named : List Str := ["web", "row", "at"]
abbrev s_named : Stmt := (top 34)
theorem sc_named : FnScope N_named ["web", "row"] (defScope s_named) := ⟨rfl, rfl, rfl, by decide +kernel, rfl, by decide +kernel, by decide +kernel⟩
def d_named : Df := ⟨(.glo "named"), "named", "named", defArgs s_named, defBody s_named, defScope s_named, []⟩
abbrev N_all_between : List Str := ["far", "one", "two", "at"]
abbrev s_all_between : Stmt := (top 33)
theorem sc_all_between : FnScope N_all_between ["far", "one", "two"] (defScope s_all_between) := ⟨rfl, rfl, rfl, by decide +kernel, rfl, by decide +kernel, by decide +kernel⟩
def d_all_between : Df := ⟨(.glo "all_between"), "all_between", "all_between", defArgs s_all_between, defBody s_all_between, defScope s_all_between, []⟩
abbrev N_Web_far : List Str := ["self", "row"]
abbrev s_Web_far : Stmt := (mem 29 4)
theorem sc_Web_far : FnScope N_Web_far ["self"] (defScope s_Web_far) := ⟨rfl, rfl, rfl, by decide +kernel, rfl, by decide +kernel, by decide +kernel⟩
def d_Web_far : Df := ⟨(.via "property" "Web" "far"), "far", "Web.far", defArgs s_Web_far, defBody s_Web_far, defScope s_Web_far, []⟩
abbrev N_between : List Str := ["web", "one", "two", "first", "second"]
abbrev s_between : Stmt := (top 35)
theorem sc_between : FnScope N_between ["web", "one", "two"] (defScope s_between) := ⟨rfl, rfl, rfl, by decide +kernel, rfl, by decide +kernel, by decide +kernel⟩
def d_between : Df := ⟨(.glo "between"), "between", "between", defArgs s_between, defBody s_between, defScope s_between, []⟩
abbrev N__law_right : List Str := ["_law_phial", "_law_turn", "_law_tags_here", "_law_links_here", "_law_again", "_law_mesh", "_law_found", "_law_due", "_law_told", "_law_word", "_law_i", "_law_j", "_law_k"]
abbrev s__law_right : Stmt := (top 45)
theorem sc__law_right : FnScope N__law_right ["_law_phial"] (defScope s__law_right) := ⟨rfl, rfl, rfl, by decide +kernel, rfl, by decide +kernel, by decide +kernel⟩
def d__law_right : Df := ⟨(.glo "_law_right"), "_law_right", "_law_right", defArgs s__law_right, defBody s__law_right, defScope s__law_right, []⟩
abbrev N__law_phial_of : List Str := ["_law_script", "_law_turn", "_law_cell", "_law_swirled", "_law_at", "_law_each"]
abbrev s__law_phial_of : Stmt := (top 37)
theorem sc__law_phial_of : FnScope N__law_phial_of ["_law_script", "_law_turn"] (defScope s__law_phial_of) := ⟨rfl, rfl, rfl, by decide +kernel, rfl, by decide +kernel, by decide +kernel⟩
def d__law_phial_of : Df := ⟨(.glo "_law_phial_of"), "_law_phial_of", "_law_phial_of", defArgs s__law_phial_of, defBody s__law_phial_of, defScope s__law_phial_of, []⟩
abbrev N_law : List Str := ["_law_script", "_law_turn"]
abbrev s_law : Stmt := (top 46)
theorem sc_law : FnScope N_law ["_law_script"] (defScope s_law) := ⟨rfl, rfl, rfl, by decide +kernel, rfl, by decide +kernel, by decide +kernel⟩
def d_law : Df := ⟨(.glo "law"), "law", "law", defArgs s_law, defBody s_law, defScope s_law, []⟩
structure Fx (K : Fg) (mg : Str → Option Value) : Prop where
  g__law_drop : mg "_law_drop" = some (.ref (ga K "_law_drop"))
  g__law_tags : mg "_law_tags" = some (.ref (ga K "_law_tags"))
  g__law_from : mg "_law_from" = some (.ref (ga K "_law_from"))
  g__law_links : mg "_law_links" = some (.ref (ga K "_law_links"))
  g__law_known : mg "_law_known" = some (.ref (ga K "_law_known"))
  g__law_spans : mg "_law_spans" = some (.ref (ga K "_law_spans"))
  g_is_name : mg "is_name" = some (.ref (ga K "is_name"))
  g_wrong_town : mg "wrong_town" = some (.ref (ga K "wrong_town"))
  g_is_pair : mg "is_pair" = some (.ref (ga K "is_pair"))
  g_is_tied : mg "is_tied" = some (.ref (ga K "is_tied"))
  g_wrong_tie : mg "wrong_tie" = some (.ref (ga K "wrong_tie"))
  g_distances_from : mg "distances_from" = some (.ref (ga K "distances_from"))
  g_neighbours : mg "neighbours" = some (.ref (ga K "neighbours"))
  g_first_apart : mg "first_apart" = some (.ref (ga K "first_apart"))
  g_all_distances : mg "all_distances" = some (.ref (ga K "all_distances"))
  g__law_on_ways : mg "_law_on_ways" = some (.ref (ga K "_law_on_ways"))
  g_check_web : mg "check_web" = some (.ref (ga K "check_web"))
  g_place_of : mg "place_of" = some (.ref (ga K "place_of"))
  g_two_places : mg "two_places" = some (.ref (ga K "two_places"))
  g_named : mg "named" = some (.ref (ga K "named"))
  g_all_between : mg "all_between" = some (.ref (ga K "all_between"))
  g_between : mg "between" = some (.ref (ga K "between"))
  g__law_right : mg "_law_right" = some (.ref (ga K "_law_right"))
  g__law_phial_of : mg "_law_phial_of" = some (.ref (ga K "_law_phial_of"))
  g_law : mg "law" = some (.ref (ga K "law"))
  n_len : mg "len" = none
  n_min : mg "min" = none
  n_max : mg "max" = none
  n_range : mg "range" = none
  n_all : mg "all" = none
  n_enumerate : mg "enumerate" = none
  n_int : mg "int" = none
  n_abs : mg "abs" = none
  n_tuple : mg "tuple" = none
  n_repr : mg "repr" = none
  a_Web_ways : NoAttr K (ga K "Web") "ways"
  n_sorted : mg "sorted" = none
  a_Web_places : NoAttr K (ga K "Web") "places"
  n_isinstance : mg "isinstance" = none
  n_divmod : mg "divmod" = none
  a_Web_roads : NoAttr K (ga K "Web") "roads"
  a_Web_pairs : NoAttr K (ga K "Web") "pairs"
  k_MOST_TIES : ∃ t, mg "MOST_TIES" = some (.int 60 t)
  k_MOST_TOWNS : ∃ t, mg "MOST_TOWNS" = some (.int 14 t)
  n_str : mg "str" = none
  k_LONGEST_NAME : ∃ t, mg "LONGEST_NAME" = some (.int 8 t)
  k_LETTERS : ∃ t, mg "LETTERS" = some (.str "abcdefghijklmnopqrstuvwxyz" t)
  k_DIGITS : ∃ t, mg "DIGITS" = some (.str "0123456789" t)
  n_list : mg "list" = none
  g_Web : mg "Web" = some (.ref (ga K "Web"))
  c_Web : ClsI K (ga K "Web")
  m_Web : Mk K (ga K "Web") (ma K (ga K "Web") "__init__")
  t_Web___init___0 : ∀ G, Rp K G (Dv.v K (.adr (dflAt ("Web", some "__init__") 0))) (.tup [])
  p_Web_towns : PropOf K (ga K "Web") "towns" (ma K (ga K "Web") "towns") (viaAd K "property" "Web" "towns")
  p_Web_far : PropOf K (ga K "Web") "far" (ma K (ga K "Web") "far") (viaAd K "property" "Web" "far")
  kit_Web_NoneType : PySem.W.kitOne K (.type "NoneType") (.ref (ga K "Web")) = some false
  kit_Web_bool : PySem.W.kitOne K (.type "bool") (.ref (ga K "Web")) = some false
  kit_Web_int : PySem.W.kitOne K (.type "int") (.ref (ga K "Web")) = some false
  kit_Web_str : PySem.W.kitOne K (.type "str") (.ref (ga K "Web")) = some false
  kit_Web_tuple : PySem.W.kitOne K (.type "tuple") (.ref (ga K "Web")) = some false
  kit_Web_list : PySem.W.kitOne K (.type "list") (.ref (ga K "Web")) = some false
  kit_Web_dict : PySem.W.kitOne K (.type "dict") (.ref (ga K "Web")) = some false
  kitc_Web_Web : PySem.W.kitOne K (.ref (ga K "Web")) (.ref (ga K "Web")) = some true
  d__law_drop : ∃ fd, FunD K "_law_drop" "_law_drop" (defArgs s__law_drop) (defBody s__law_drop) (defScope s__law_drop) (([] : List Dv).map (Dv.v K)) [] (Ad.at K (.glo "_law_drop")) fd
  d__law_tags : ∃ fd, FunD K "_law_tags" "_law_tags" (defArgs s__law_tags) (defBody s__law_tags) (defScope s__law_tags) (([] : List Dv).map (Dv.v K)) [] (Ad.at K (.glo "_law_tags")) fd
  d__law_from : ∃ fd, FunD K "_law_from" "_law_from" (defArgs s__law_from) (defBody s__law_from) (defScope s__law_from) (([] : List Dv).map (Dv.v K)) [] (Ad.at K (.glo "_law_from")) fd
  d__law_links : ∃ fd, FunD K "_law_links" "_law_links" (defArgs s__law_links) (defBody s__law_links) (defScope s__law_links) (([] : List Dv).map (Dv.v K)) [] (Ad.at K (.glo "_law_links")) fd
  d__law_known : ∃ fd, FunD K "_law_known" "_law_known" (defArgs s__law_known) (defBody s__law_known) (defScope s__law_known) (([] : List Dv).map (Dv.v K)) [] (Ad.at K (.glo "_law_known")) fd
  d__law_spans : ∃ fd, FunD K "_law_spans" "_law_spans" (defArgs s__law_spans) (defBody s__law_spans) (defScope s__law_spans) (([] : List Dv).map (Dv.v K)) [] (Ad.at K (.glo "_law_spans")) fd
  d_is_name : ∃ fd, FunD K "is_name" "is_name" (defArgs s_is_name) (defBody s_is_name) (defScope s_is_name) (([] : List Dv).map (Dv.v K)) [] (Ad.at K (.glo "is_name")) fd
  d_wrong_town : ∃ fd, FunD K "wrong_town" "wrong_town" (defArgs s_wrong_town) (defBody s_wrong_town) (defScope s_wrong_town) (([] : List Dv).map (Dv.v K)) [] (Ad.at K (.glo "wrong_town")) fd
  d_is_pair : ∃ fd, FunD K "is_pair" "is_pair" (defArgs s_is_pair) (defBody s_is_pair) (defScope s_is_pair) (([] : List Dv).map (Dv.v K)) [] (Ad.at K (.glo "is_pair")) fd
  d_is_tied : ∃ fd, FunD K "is_tied" "is_tied" (defArgs s_is_tied) (defBody s_is_tied) (defScope s_is_tied) (([] : List Dv).map (Dv.v K)) [] (Ad.at K (.glo "is_tied")) fd
  d_wrong_tie : ∃ fd, FunD K "wrong_tie" "wrong_tie" (defArgs s_wrong_tie) (defBody s_wrong_tie) (defScope s_wrong_tie) (([] : List Dv).map (Dv.v K)) [] (Ad.at K (.glo "wrong_tie")) fd
  d_distances_from : ∃ fd, FunD K "distances_from" "distances_from" (defArgs s_distances_from) (defBody s_distances_from) (defScope s_distances_from) (([] : List Dv).map (Dv.v K)) [] (Ad.at K (.glo "distances_from")) fd
  d_neighbours : ∃ fd, FunD K "neighbours" "neighbours" (defArgs s_neighbours) (defBody s_neighbours) (defScope s_neighbours) (([] : List Dv).map (Dv.v K)) [] (Ad.at K (.glo "neighbours")) fd
  d_first_apart : ∃ fd, FunD K "first_apart" "first_apart" (defArgs s_first_apart) (defBody s_first_apart) (defScope s_first_apart) (([] : List Dv).map (Dv.v K)) [] (Ad.at K (.glo "first_apart")) fd
  d_all_distances : ∃ fd, FunD K "all_distances" "all_distances" (defArgs s_all_distances) (defBody s_all_distances) (defScope s_all_distances) (([] : List Dv).map (Dv.v K)) [] (Ad.at K (.glo "all_distances")) fd
  d_Web___init__ : ∃ fd, FunD K "__init__" "Web.__init__" (defArgs s_Web___init__) (defBody s_Web___init__) (defScope s_Web___init__) ([.adr (dflAt ("Web", some "__init__") 0)].map (Dv.v K)) [] (Ad.at K (.mem "Web" "__init__")) fd
  d__law_on_ways : ∃ fd, FunD K "_law_on_ways" "_law_on_ways" (defArgs s__law_on_ways) (defBody s__law_on_ways) (defScope s__law_on_ways) (([] : List Dv).map (Dv.v K)) [] (Ad.at K (.glo "_law_on_ways")) fd
  d_check_web : ∃ fd, FunD K "check_web" "check_web" (defArgs s_check_web) (defBody s_check_web) (defScope s_check_web) (([] : List Dv).map (Dv.v K)) [] (Ad.at K (.glo "check_web")) fd
  d_Web_towns : ∃ fd, FunD K "towns" "Web.towns" (defArgs s_Web_towns) (defBody s_Web_towns) (defScope s_Web_towns) (([] : List Dv).map (Dv.v K)) [] (Ad.at K (.via "property" "Web" "towns")) fd
  d_place_of : ∃ fd, FunD K "place_of" "place_of" (defArgs s_place_of) (defBody s_place_of) (defScope s_place_of) (([] : List Dv).map (Dv.v K)) [] (Ad.at K (.glo "place_of")) fd
  d_two_places : ∃ fd, FunD K "two_places" "two_places" (defArgs s_two_places) (defBody s_two_places) (defScope s_two_places) (([] : List Dv).map (Dv.v K)) [] (Ad.at K (.glo "two_places")) fd
  d_named : ∃ fd, FunD K "named" "named" (defArgs s_named) (defBody s_named) (defScope s_named) (([] : List Dv).map (Dv.v K)) [] (Ad.at K (.glo "named")) fd
  d_all_between : ∃ fd, FunD K "all_between" "all_between" (defArgs s_all_between) (defBody s_all_between) (defScope s_all_between) (([] : List Dv).map (Dv.v K)) [] (Ad.at K (.glo "all_between")) fd
  d_Web_far : ∃ fd, FunD K "far" "Web.far" (defArgs s_Web_far) (defBody s_Web_far) (defScope s_Web_far) (([] : List Dv).map (Dv.v K)) [] (Ad.at K (.via "property" "Web" "far")) fd
  d_between : ∃ fd, FunD K "between" "between" (defArgs s_between) (defBody s_between) (defScope s_between) (([] : List Dv).map (Dv.v K)) [] (Ad.at K (.glo "between")) fd
  d__law_right : ∃ fd, FunD K "_law_right" "_law_right" (defArgs s__law_right) (defBody s__law_right) (defScope s__law_right) (([] : List Dv).map (Dv.v K)) [] (Ad.at K (.glo "_law_right")) fd
  d__law_phial_of : ∃ fd, FunD K "_law_phial_of" "_law_phial_of" (defArgs s__law_phial_of) (defBody s__law_phial_of) (defScope s__law_phial_of) (([] : List Dv).map (Dv.v K)) [] (Ad.at K (.glo "_law_phial_of")) fd
  d_law : ∃ fd, FunD K "law" "law" (defArgs s_law) (defBody s_law) (defScope s_law) (([] : List Dv).map (Dv.v K)) [] (Ad.at K (.glo "law")) fd
theorem Fx.clss {K : Fg} {mg : Str → Option Value} (h : Fx K mg) : ∀ C ∈ clss K, ClsI K C := by
  intro C hC
  simp only [Lk10.clss, List.mem_cons, List.not_mem_nil, or_false] at hC
  subst hC
  exact h.c_Web
/-! _law_drop -/
theorem fp__law_drop {P : Program} {w : World} {K : Fg} {mg : Str → Option Value} {base : Heap} {fd : FuncData} (h : Fx K mg) (F : FunD K "_law_drop" "_law_drop" (defArgs s__law_drop) (defBody s__law_drop) (defScope s__law_drop) (([] : List Dv).map (Dv.v K)) [] (Ad.at K (.glo "_law_drop")) fd) : FnOk P w K mg base (L2.CX P w) 1 (Ad.at K (.glo "_law_drop")) fd ["_law_phial", "_law_top"] (spD K 2 (F__law_drop)) := by
  refine FnD.fnok (k := 0) F sc__law_drop (by decide) fun cdv A outer s H E hr => ?_
  have hN := sc__law_drop.nd
  have tk := takes_of (X := cxOf (L2.CX P w) P w K mg base N__law_drop "_law_drop" (defScope s__law_drop) (Ad.at K (.glo "_law_drop")) cdv A outer s H E) rfl rfl rfl rfl
  exact (dss_cons (ds_if (t_gt (w_ix (dq_var (pv 0)) dp_int.weak).weak dp_int.weak) (dss_cons (ds_asgI (tm_cons (tm_ix (i := 0) (g := (pC (.int 0)))) (tm_cons (TgOk.m (tg_name 3)) tm_nil)) (len_cons (len_cons len_nil)) (w_divmod h.n_divmod (w_ix (dq_var (pv 0)) dp_int.weak) (dp_var (pv 1))) (fun _ z => ps_asg z (pg_tup rfl (pgs_cons (pg_sub (pv 0) (DZ.run dp_int) set_list) (pgs_cons (pg_name hN rfl (by first | exact .inl rfl | exact .inr rfl)) pgs_nil))))) (dss_one (ds_ret (dp_var (pv 3))))) dss_nil) (dss_cons (ds_asgM (tm_ix (i := 0) (g := (pC (.int 2)))) (w_add (w_ix (dq_var (pv 0)) dp_int.weak).weak dp_int.weak) (fun _ z => ps_asg z (pg_sub (pv 0) (DZ.run dp_int) set_list))) (dss_cons (ds_asg (tg_name 2) (w_mod (w_int h.n_int (w_add (w_ix (dq_var (pv 0)) dp_int.weak).weak (w_mul dp_int.weak (w_ix (dq_var (pv 0)) dp_int.weak).weak).weak).weak).weak dp_int.weak) (fun _ z => ps_set hN rfl (by first | exact .inl rfl | exact .inr rfl) z)) (dss_cons (ds_asgM (tm_ix (i := 0) (g := (pC (.int 1)))) (w_mod (w_int h.n_int (w_add (w_add (w_mul (dp_var (pv 2)).weak (w_add (w_mod (w_int h.n_int (dp_var (pv 2)).weak).weak dp_int.weak).weak dp_int.weak).weak).weak (w_mul dp_int.weak (w_ix (dq_var (pv 0)) dp_int.weak).weak).weak).weak dp_int.weak).weak).weak dp_int.weak) (fun _ z => ps_asg z (pg_sub (pv 0) (DZ.run dp_int) set_list))) (dss_one (ds_ret (w_mod (w_fdiv (w_int h.n_int (w_ix (dq_var (pv 0)) dp_int.weak).weak).weak dp_int.weak).weak (dp_var (pv 1)).weak)))))))
theorem fo__law_drop {P : Program} {w : World} {K : Fg} {mg : Str → Option Value} {base : Heap} (h : Fx K mg) : ∃ fd, FnOk P w K mg base (L2.CX P w) 1 (Ad.at K (.glo "_law_drop")) fd ["_law_phial", "_law_top"] (spD K 2 (F__law_drop)) ∧ FunD K "_law_drop" "_law_drop" (defArgs s__law_drop) (defBody s__law_drop) (defScope s__law_drop) (([] : List Dv).map (Dv.v K)) [] (Ad.at K (.glo "_law_drop")) fd :=
  let ⟨fd, F⟩ := h.d__law_drop
  ⟨fd, fp__law_drop h F, F⟩
theorem ok__law_drop {P : Program} {w : World} {K : Fg} {mg : Str → Option Value} {base : Heap} (h : Fx K mg) : FnD P w K mg base 1 "_law_drop" ["_law_phial", "_law_top"] (F__law_drop) :=
  let ⟨fd, a, F⟩ := fo__law_drop h
  ⟨_, fd, a, h.g__law_drop, F.kp, F.bindsN fun _ _ _ _ _ _ us hl => match us, hl with | [_, _], _ => rfl⟩
/-! _law_tags -/
theorem fp__law_tags {P : Program} {w : World} {K : Fg} {mg : Str → Option Value} {base : Heap} {fd : FuncData} (h : Fx K mg) (F : FunD K "_law_tags" "_law_tags" (defArgs s__law_tags) (defBody s__law_tags) (defScope s__law_tags) (([] : List Dv).map (Dv.v K)) [] (Ad.at K (.glo "_law_tags")) fd) : FnOk P w K mg base (L2.CX P w) 2 (Ad.at K (.glo "_law_tags")) fd ["_law_phial", "_law_least", "_law_most"] (spD K 3 (F__law_tags)) := by
  refine FnD.fnok (k := 1) F sc__law_tags (by decide) fun cdv A outer s H E hr => ?_
  have hN := sc__law_tags.nd
  have tk := takes_of (X := cxOf (L2.CX P w) P w K mg base N__law_tags "_law_tags" (defScope s__law_tags) (Ad.at K (.glo "_law_tags")) cdv A outer s H E) rfl rfl rfl rfl
  exact (dss_cons (ds_own (df_lst (da_cons dp_str (da_cons dp_str (da_cons dp_str (da_cons dp_str (da_cons dp_str (da_cons dp_str (da_cons dp_str (da_cons dp_str (da_cons dp_str (da_cons dp_str (da_cons dp_str (da_cons dp_str (da_cons dp_str (da_cons dp_str da_nil))))))))))))))) (fun _ z => ps_set hN rfl (by first | exact .inl rfl | exact .inr rfl) z)) (dss_cons (ds_own (df_lst da_nil) (fun _ z => ps_set hN rfl (by first | exact .inl rfl | exact .inr rfl) z)) (dss_cons (ds_forE (passes_of rfl) rfl (wj_range1 h.n_range (we_add (DP.de (dp_var (pv 1))) (de_callO (FnD.cal ((ok__law_drop h).mono (by decide)) hr (by rfl) tk) (pv 0) (db_cons (DP.de (w_add (w_sub (dp_var (pv 2)).weak (dp_var (pv 1)).weak).weak dp_int.weak)) db_nil) (len_bCons len_bNil)))) (pg_name hN rfl (by first | exact .inl rfl | exact .inr rfl)) (tg_name 5) (dss_one (ds_exprE (w_append (pv 4) (w_pop (pv 3) (de_callO (FnD.cal ((ok__law_drop h).mono (by decide)) hr (by rfl) tk) (pv 0) (db_cons (DP.de (w_len h.n_len (dr_var (pv 3)))) db_nil) (len_bCons len_bNil))))))) (dss_one (ds_ret (w_tuple h.n_tuple (dq_var (pv 4))))))))
theorem fo__law_tags {P : Program} {w : World} {K : Fg} {mg : Str → Option Value} {base : Heap} (h : Fx K mg) : ∃ fd, FnOk P w K mg base (L2.CX P w) 2 (Ad.at K (.glo "_law_tags")) fd ["_law_phial", "_law_least", "_law_most"] (spD K 3 (F__law_tags)) ∧ FunD K "_law_tags" "_law_tags" (defArgs s__law_tags) (defBody s__law_tags) (defScope s__law_tags) (([] : List Dv).map (Dv.v K)) [] (Ad.at K (.glo "_law_tags")) fd :=
  let ⟨fd, F⟩ := h.d__law_tags
  ⟨fd, fp__law_tags h F, F⟩
theorem ok__law_tags {P : Program} {w : World} {K : Fg} {mg : Str → Option Value} {base : Heap} (h : Fx K mg) : FnD P w K mg base 2 "_law_tags" ["_law_phial", "_law_least", "_law_most"] (F__law_tags) :=
  let ⟨fd, a, F⟩ := fo__law_tags h
  ⟨_, fd, a, h.g__law_tags, F.kp, F.bindsN fun _ _ _ _ _ _ us hl => match us, hl with | [_, _, _], _ => rfl⟩
/-! _law_from -/
theorem fp__law_from {P : Program} {w : World} {K : Fg} {mg : Str → Option Value} {base : Heap} {fd : FuncData} (h : Fx K mg) (F : FunD K "_law_from" "_law_from" (defArgs s__law_from) (defBody s__law_from) (defScope s__law_from) (([] : List Dv).map (Dv.v K)) [] (Ad.at K (.glo "_law_from")) fd) : FnOk P w K mg base (L2.CX P w) 2 (Ad.at K (.glo "_law_from")) fd ["_law_phial", "_law_menu"] (spD K 2 (F__law_from)) := by
  refine FnD.fnok (k := 1) F sc__law_from (by decide) fun cdv A outer s H E hr => ?_
  have hN := sc__law_from.nd
  have tk := takes_of (X := cxOf (L2.CX P w) P w K mg base N__law_from "_law_from" (defScope s__law_from) (Ad.at K (.glo "_law_from")) cdv A outer s H E) rfl rfl rfl rfl
  exact (dss_one (ds_retE (we_ix (DP.de (dp_var (pv 1))) (de_callO (FnD.cal ((ok__law_drop h).mono (by decide)) hr (by rfl) tk) (pv 0) (db_cons (DP.de (w_len h.n_len (dp_var (pv 1)))) db_nil) (len_bCons len_bNil)))))
theorem fo__law_from {P : Program} {w : World} {K : Fg} {mg : Str → Option Value} {base : Heap} (h : Fx K mg) : ∃ fd, FnOk P w K mg base (L2.CX P w) 2 (Ad.at K (.glo "_law_from")) fd ["_law_phial", "_law_menu"] (spD K 2 (F__law_from)) ∧ FunD K "_law_from" "_law_from" (defArgs s__law_from) (defBody s__law_from) (defScope s__law_from) (([] : List Dv).map (Dv.v K)) [] (Ad.at K (.glo "_law_from")) fd :=
  let ⟨fd, F⟩ := h.d__law_from
  ⟨fd, fp__law_from h F, F⟩
theorem ok__law_from {P : Program} {w : World} {K : Fg} {mg : Str → Option Value} {base : Heap} (h : Fx K mg) : FnD P w K mg base 2 "_law_from" ["_law_phial", "_law_menu"] (F__law_from) :=
  let ⟨fd, a, F⟩ := fo__law_from h
  ⟨_, fd, a, h.g__law_from, F.kp, F.bindsN fun _ _ _ _ _ _ us hl => match us, hl with | [_, _], _ => rfl⟩
/-! _law_links -/
theorem fp__law_links {P : Program} {w : World} {K : Fg} {mg : Str → Option Value} {base : Heap} {fd : FuncData} (h : Fx K mg) (F : FunD K "_law_links" "_law_links" (defArgs s__law_links) (defBody s__law_links) (defScope s__law_links) (([] : List Dv).map (Dv.v K)) [] (Ad.at K (.glo "_law_links")) fd) : FnOk P w K mg base (L2.CX P w) 3 (Ad.at K (.glo "_law_links")) fd ["_law_phial", "_law_tags_here", "_law_more"] (spD K 3 (F__law_links)) := by
  refine FnD.fnok (k := 2) F sc__law_links (by decide) fun cdv A outer s H E hr => ?_
  have hN := sc__law_links.nd
  have tk := takes_of (X := cxOf (L2.CX P w) P w K mg base N__law_links "_law_links" (defScope s__law_links) (Ad.at K (.glo "_law_links")) cdv A outer s H E) rfl rfl rfl rfl
  exact (dss_cons (ds_own (df_lst da_nil) (fun _ z => ps_set hN rfl (by first | exact .inl rfl | exact .inr rfl) z)) (dss_cons (ds_for (passes_of rfl) rfl (w_range2 h.n_range dp_int (w_len h.n_len (dp_var (pv 1)))) (pg_name hN rfl (by first | exact .inl rfl | exact .inr rfl)) (tg_name 4) (dss_one (ds_exprE (w_append (pv 3) (de_tup (db_cons (DP.de (w_ix (dp_var (pv 1)).weak (dp_var (pv 4)).weak)) (db_cons (we_ix (DP.de (dp_var (pv 1))) (de_callO (FnD.cal ((ok__law_drop h).mono (by decide)) hr (by rfl) tk) (pv 0) (db_cons (DP.de (dp_var (pv 4))) db_nil) (len_bCons len_bNil))) db_nil))))))) (dss_cons (ds_forE (passes_of rfl) rfl (wj_range1 h.n_range (de_if (DT.q (t_gt (w_len h.n_len (dp_var (pv 1))).weak dp_int.weak)) (de_callO (FnD.cal ((ok__law_drop h).mono (by decide)) hr (by rfl) tk) (pv 0) (db_cons (DP.de (w_add (dp_var (pv 2)).weak dp_int.weak)) db_nil) (len_bCons len_bNil)) (DP.de dp_int))) (pg_name hN rfl (by first | exact .inl rfl | exact .inr rfl)) (tg_name 5) (dss_cons (ds_par2 (dv_val (de_callO (FnD.cal ((ok__law_from h).mono (by decide)) hr (by rfl) tk) (pv 0) (db_cons (DP.de (dp_var (pv 1))) db_nil) (len_bCons len_bNil)) (dv_val (de_callO (FnD.cal ((ok__law_from h).mono (by decide)) hr (by rfl) tk) (pv 0) (db_cons (DP.de (dp_var (pv 1))) db_nil) (len_bCons len_bNil)) dv_nil)) fun _ z => ps_par rfl hN rfl rfl (by decide) rfl rfl z (by rfl)) (dss_one (ds_if (DW.dt (dw_and (t_ne hr (dp_var (pv 8)) (dp_var (pv 9))) (dw_and (t_nin hr (dp_tup (da_cons (dp_var (pv 8)) (da_cons (dp_var (pv 9)) da_nil))) (dr_var (pv 3))) (dw_and1 (t_nin hr (dp_tup (da_cons (dp_var (pv 9)) (da_cons (dp_var (pv 8)) da_nil))) (dr_var (pv 3))))))) (dss_one (ds_exprE (w_append (pv 3) (DP.de (dp_tup (da_cons (dp_var (pv 8)) (da_cons (dp_var (pv 9)) da_nil))))))) dss_nil)))) (dss_cons (ds_own (df_lst da_nil) (fun _ z => ps_set hN rfl (by first | exact .inl rfl | exact .inr rfl) z)) (dss_cons (ds_for (passes_of rfl) rfl (w_range1 h.n_range (w_len h.n_len (dr_var (pv 3)))) (pg_name hN rfl (by first | exact .inl rfl | exact .inr rfl)) (tg_name 5) (dss_cons (ds_asgE (tg_name 7) (w_pop (pv 3) (de_callO (FnD.cal ((ok__law_drop h).mono (by decide)) hr (by rfl) tk) (pv 0) (db_cons (DP.de (w_len h.n_len (dr_var (pv 3)))) db_nil) (len_bCons len_bNil))) (fun _ z => ps_set hN rfl (by first | exact .inl rfl | exact .inr rfl) z)) (dss_one (ds_exprE (w_append (pv 6) (de_if (q_eq hr (de_callO (FnD.cal ((ok__law_drop h).mono (by decide)) hr (by rfl) tk) (pv 0) (db_cons (DP.de dp_int) db_nil) (len_bCons len_bNil)) (DP.de dp_int)) (DP.de (dp_var (pv 7))) (DP.de (w_rev (dp_var (pv 7)).weak)))))))) (dss_one (ds_ret (w_tuple h.n_tuple (dq_var (pv 6))))))))))
theorem fo__law_links {P : Program} {w : World} {K : Fg} {mg : Str → Option Value} {base : Heap} (h : Fx K mg) : ∃ fd, FnOk P w K mg base (L2.CX P w) 3 (Ad.at K (.glo "_law_links")) fd ["_law_phial", "_law_tags_here", "_law_more"] (spD K 3 (F__law_links)) ∧ FunD K "_law_links" "_law_links" (defArgs s__law_links) (defBody s__law_links) (defScope s__law_links) (([] : List Dv).map (Dv.v K)) [] (Ad.at K (.glo "_law_links")) fd :=
  let ⟨fd, F⟩ := h.d__law_links
  ⟨fd, fp__law_links h F, F⟩
theorem ok__law_links {P : Program} {w : World} {K : Fg} {mg : Str → Option Value} {base : Heap} (h : Fx K mg) : FnD P w K mg base 3 "_law_links" ["_law_phial", "_law_tags_here", "_law_more"] (F__law_links) :=
  let ⟨fd, a, F⟩ := fo__law_links h
  ⟨_, fd, a, h.g__law_links, F.kp, F.bindsN fun _ _ _ _ _ _ us hl => match us, hl with | [_, _, _], _ => rfl⟩
/-! _law_known -/
theorem fp__law_known {P : Program} {w : World} {K : Fg} {mg : Str → Option Value} {base : Heap} {fd : FuncData} (h : Fx K mg) (F : FunD K "_law_known" "_law_known" (defArgs s__law_known) (defBody s__law_known) (defScope s__law_known) (([] : List Dv).map (Dv.v K)) [] (Ad.at K (.glo "_law_known")) fd) : FnOk P w K mg base (L2.CX P w) 3 (Ad.at K (.glo "_law_known")) fd ["_law_phial"] (spD K 1 (F__law_known)) := by
  refine FnD.fnok (k := 2) F sc__law_known (by decide) fun cdv A outer s H E hr => ?_
  have hN := sc__law_known.nd
  have tk := takes_of (X := cxOf (L2.CX P w) P w K mg base N__law_known "_law_known" (defScope s__law_known) (Ad.at K (.glo "_law_known")) cdv A outer s H E) rfl rfl rfl rfl
  exact (dss_cons (ds_parT (n := 2) (dv_val (de_callO (FnD.cal ((ok__law_from h).mono (by decide)) hr (by rfl) tk) (pv 0) (db_cons (DP.de (DF.dp (df_lst (da_cons dp_str (da_cons dp_str (da_cons dp_str (da_cons dp_str (da_cons dp_str (da_cons dp_str (da_cons dp_str da_nil)))))))))) db_nil) (len_bCons len_bNil)) (dv_val (we_add (DP.de dp_int) (de_callO (FnD.cal ((ok__law_drop h).mono (by decide)) hr (by rfl) tk) (pv 0) (db_cons (DP.de dp_int) db_nil) (len_bCons len_bNil))) dv_nil)) rfl (by decide) (nm_cons (nm_cons nm_nil)) (fun _ z => ps_asg z (pg_tup rfl (pgs_cons (pg_name hN rfl (by first | exact .inl rfl | exact .inr rfl)) (pgs_cons (pg_name hN rfl (by first | exact .inl rfl | exact .inr rfl)) pgs_nil)))) fun _ z => pe_tup z) (dss_cons (ds_asg (tg_name 1) (w_tuple h.n_tuple (DF.dp (df_lc (own := [("_law_k", 3)]) rfl hN (w_range1 h.n_range dp_int) (blk_ok rfl (by kernel_rfl) (by kernel_rfl) (by kernel_rfl) (by kernel_rfl)) (fun _ _ _ _ _ => (pg_name hN rfl (by first | exact .inl rfl | exact .inr rfl))) (tg_name 3) (by decide) (fun _ _ _ _ _ => dts_nil) (fun _ _ _ _ _ => (w_add dp_str.weak (w_str1 h.n_str (dp_var (pv 3))).weak)))).weak) (fun _ z => ps_set hN rfl (by first | exact .inl rfl | exact .inr rfl) z)) (dss_cons (ds_if (t_eq hr (dp_var (pv 4)) dp_str) (dss_one (ds_ret (dp_tup (da_cons (dp_var (pv 4)) (da_cons (dp_slice (dp_var (pv 1)).weak do_none (do_some (dp_var (pv 5)))) (da_cons (w_tuple h.n_tuple (DF.dp (df_lc (own := [("_law_k", 3)]) rfl hN (w_range1 h.n_range (w_sub (dp_var (pv 5)).weak dp_int.weak)) (blk_ok rfl (by kernel_rfl) (by kernel_rfl) (by kernel_rfl) (by kernel_rfl)) (fun _ _ _ _ _ => (pg_name hN rfl (by first | exact .inl rfl | exact .inr rfl))) (tg_name 3) (by decide) (fun _ _ _ _ _ => dts_nil) (fun _ _ _ _ _ => (dp_tup (da_cons (w_ix (dp_var (pv 1)).weak (dp_var (pv 3)).weak) (da_cons (w_ix (dp_var (pv 1)).weak (w_add (dp_var (pv 3)).weak dp_int.weak).weak) da_nil)))))).weak) da_nil)))))) dss_nil) (dss_cons (ds_if (t_eq hr (dp_var (pv 4)) dp_str) (dss_one (ds_ret (dp_tup (da_cons (dp_var (pv 4)) (da_cons (dp_slice (dp_var (pv 1)).weak do_none (do_some (dp_var (pv 5)))) (da_cons (w_tuple h.n_tuple (DF.dp (df_lc (own := [("_law_k", 3)]) rfl hN (w_range1 h.n_range (dp_var (pv 5))) (blk_ok rfl (by kernel_rfl) (by kernel_rfl) (by kernel_rfl) (by kernel_rfl)) (fun _ _ _ _ _ => (pg_name hN rfl (by first | exact .inl rfl | exact .inr rfl))) (tg_name 3) (by decide) (fun _ _ _ _ _ => dts_nil) (fun _ _ _ _ _ => (dp_tup (da_cons (w_ix (dp_var (pv 1)).weak (dp_var (pv 3)).weak) (da_cons (w_ix (dp_var (pv 1)).weak (w_mod (w_int h.n_int (w_add (dp_var (pv 3)).weak dp_int.weak).weak).weak (dp_var (pv 5)).weak).weak) da_nil)))))).weak) da_nil)))))) dss_nil) (dss_cons (ds_if (t_eq hr (dp_var (pv 4)) dp_str) (dss_one (ds_ret (dp_tup (da_cons (dp_var (pv 4)) (da_cons (dp_slice (dp_var (pv 1)).weak do_none (do_some (dp_var (pv 5)))) (da_cons (w_tuple h.n_tuple (DF.dp (df_lc (own := [("_law_k", 3)]) rfl hN (w_range2 h.n_range dp_int (dp_var (pv 5))) (blk_ok rfl (by kernel_rfl) (by kernel_rfl) (by kernel_rfl) (by kernel_rfl)) (fun _ _ _ _ _ => (pg_name hN rfl (by first | exact .inl rfl | exact .inr rfl))) (tg_name 3) (by decide) (fun _ _ _ _ _ => dts_nil) (fun _ _ _ _ _ => (dp_tup (da_cons (w_ix (dp_var (pv 1)).weak dp_int.weak) (da_cons (w_ix (dp_var (pv 1)).weak (dp_var (pv 3)).weak) da_nil)))))).weak) da_nil)))))) dss_nil) (dss_cons (ds_if (t_eq hr (dp_var (pv 4)) dp_str) (dss_one (ds_ret (dp_tup (da_cons (dp_var (pv 4)) (da_cons (dp_slice (dp_var (pv 1)).weak do_none (do_some (w_add (dp_var (pv 5)).weak dp_int.weak))) (da_cons (w_tuple h.n_tuple (DF.dp (df_lc (own := [("_law_k", 3)]) rfl hN (w_range1 h.n_range (w_mul dp_int.weak (dp_var (pv 5)).weak)) (blk_ok rfl (by kernel_rfl) (by kernel_rfl) (by kernel_rfl) (by kernel_rfl)) (fun _ _ _ _ _ => (pg_name hN rfl (by first | exact .inl rfl | exact .inr rfl))) (tg_name 3) (by decide) (fun _ _ _ _ _ => dts_nil) (fun _ _ _ _ _ => (dp_tup (da_cons (w_ix (dp_var (pv 1)).weak (w_mod (w_int h.n_int (dp_var (pv 3)).weak).weak dp_int.weak).weak) (da_cons (w_ix (dp_var (pv 1)).weak (w_add dp_int.weak (w_fdiv (dp_var (pv 3)).weak dp_int.weak).weak).weak) da_nil)))))).weak) da_nil)))))) dss_nil) (dss_cons (ds_asg (tg_name 2) (DF.dp (df_lst da_nil)) (fun _ z => ps_set hN rfl (by first | exact .inl rfl | exact .inr rfl) z)) (dss_cons (ds_if (t_eq hr (dp_var (pv 4)) dp_str) (dss_cons (ds_for (passes_of rfl) rfl (w_range1 h.n_range (dp_var (pv 5))) (pg_name hN rfl (by first | exact .inl rfl | exact .inr rfl)) (tg_name 3) (dss_one (ds_asg (tg_name 2) (w_add (dp_var (pv 2)).weak (DF.dp (df_lc (own := [("_law_j", 7)]) rfl hN (w_range1 h.n_range (dp_var (pv 3))) (blk_ok rfl (by kernel_rfl) (by kernel_rfl) (by kernel_rfl) (by kernel_rfl)) (fun _ _ _ _ _ => (pg_name hN rfl (by first | exact .inl rfl | exact .inr rfl))) (tg_name 7) (by decide) (fun _ _ _ _ _ => dts_nil) (fun _ _ _ _ _ => (dp_tup (da_cons (w_ix (dp_var (pv 1)).weak (dp_var (pv 7)).weak) (da_cons (w_ix (dp_var (pv 1)).weak (dp_var (pv 3)).weak) da_nil)))))).weak) (fun _ z => ps_set hN rfl (by first | exact .inl rfl | exact .inr rfl) z)))) (dss_one (ds_ret (dp_tup (da_cons (dp_var (pv 4)) (da_cons (dp_slice (dp_var (pv 1)).weak do_none (do_some (dp_var (pv 5)))) (da_cons (w_tuple h.n_tuple (dp_var (pv 2)).weak) da_nil))))))) dss_nil) (dss_cons (ds_if (t_eq hr (dp_var (pv 4)) dp_str) (dss_cons (ds_for (passes_of rfl) rfl (w_range1 h.n_range (w_mul dp_int.weak (dp_var (pv 5)).weak)) (pg_name hN rfl (by first | exact .inl rfl | exact .inr rfl)) (tg_name 3) (dss_cons (ds_asg (tg_name 2) (w_add (dp_var (pv 2)).weak (dp_if (t_lt (w_add (dp_var (pv 3)).weak dp_int.weak).weak (w_mul dp_int.weak (dp_var (pv 5)).weak).weak) (DF.dp (df_lst (da_cons (dp_tup (da_cons (w_ix (dp_var (pv 1)).weak (dp_var (pv 3)).weak) (da_cons (w_ix (dp_var (pv 1)).weak (w_add (dp_var (pv 3)).weak dp_int.weak).weak) da_nil))) da_nil))) (DF.dp (df_lst da_nil))).weak) (fun _ z => ps_set hN rfl (by first | exact .inl rfl | exact .inr rfl) z)) (dss_one (ds_asg (tg_name 2) (w_add (dp_var (pv 2)).weak (dp_if (t_eq hr (w_mod (w_int h.n_int (dp_var (pv 3)).weak).weak dp_int.weak) dp_int) (DF.dp (df_lst (da_cons (dp_tup (da_cons (w_ix (dp_var (pv 1)).weak (dp_var (pv 3)).weak) (da_cons (w_ix (dp_var (pv 1)).weak (w_add (dp_var (pv 3)).weak dp_int.weak).weak) da_nil))) da_nil))) (DF.dp (df_lst da_nil))).weak) (fun _ z => ps_set hN rfl (by first | exact .inl rfl | exact .inr rfl) z))))) (dss_one (ds_ret (dp_tup (da_cons (dp_var (pv 4)) (da_cons (dp_slice (dp_var (pv 1)).weak do_none (do_some (w_mul dp_int.weak (dp_var (pv 5)).weak))) (da_cons (w_tuple h.n_tuple (dp_var (pv 2)).weak) da_nil))))))) dss_nil) (dss_cons (ds_for (passes_of rfl) rfl (w_range1 h.n_range dp_int) (pg_name hN rfl (by first | exact .inl rfl | exact .inr rfl)) (tg_name 3) (dss_one (ds_asg (tg_name 2) (w_add (dp_var (pv 2)).weak (DF.dp (df_lc (own := [("_law_step", 6)]) rfl hN (di_seq (DF.dp (df_lst (da_cons dp_int (da_cons dp_int (da_cons dp_int da_nil)))))) (blk_ok rfl (by kernel_rfl) (by kernel_rfl) (by kernel_rfl) (by kernel_rfl)) (fun _ _ _ _ _ => (pg_name hN rfl (by first | exact .inl rfl | exact .inr rfl))) (tg_name 6) (by decide) (fun _ _ _ _ _ => (dts_one (t_eq hr (w_mod (w_int h.n_int (w_fdiv (dp_var (pv 3)).weak (dp_var (pv 6)).weak).weak).weak dp_int.weak) dp_int))) (fun _ _ _ _ _ => (dp_tup (da_cons (w_ix (dp_var (pv 1)).weak (dp_var (pv 3)).weak) (da_cons (w_ix (dp_var (pv 1)).weak (w_add (dp_var (pv 3)).weak (dp_var (pv 6)).weak).weak) da_nil)))))).weak) (fun _ z => ps_set hN rfl (by first | exact .inl rfl | exact .inr rfl) z)))) (dss_one (ds_ret (dp_tup (da_cons (dp_var (pv 4)) (da_cons (dp_slice (dp_var (pv 1)).weak do_none (do_some dp_int)) (da_cons (w_tuple h.n_tuple (dp_var (pv 2)).weak) da_nil))))))))))))))))
theorem fo__law_known {P : Program} {w : World} {K : Fg} {mg : Str → Option Value} {base : Heap} (h : Fx K mg) : ∃ fd, FnOk P w K mg base (L2.CX P w) 3 (Ad.at K (.glo "_law_known")) fd ["_law_phial"] (spD K 1 (F__law_known)) ∧ FunD K "_law_known" "_law_known" (defArgs s__law_known) (defBody s__law_known) (defScope s__law_known) (([] : List Dv).map (Dv.v K)) [] (Ad.at K (.glo "_law_known")) fd :=
  let ⟨fd, F⟩ := h.d__law_known
  ⟨fd, fp__law_known h F, F⟩
theorem ok__law_known {P : Program} {w : World} {K : Fg} {mg : Str → Option Value} {base : Heap} (h : Fx K mg) : FnD P w K mg base 3 "_law_known" ["_law_phial"] (F__law_known) :=
  let ⟨fd, a, F⟩ := fo__law_known h
  ⟨_, fd, a, h.g__law_known, F.kp, F.bindsN fun _ _ _ _ _ _ us hl => match us, hl with | [_], _ => rfl⟩
/-! _law_spans -/
theorem fp__law_spans {P : Program} {w : World} {K : Fg} {mg : Str → Option Value} {base : Heap} {fd : FuncData} (h : Fx K mg) (F : FunD K "_law_spans" "_law_spans" (defArgs s__law_spans) (defBody s__law_spans) (defScope s__law_spans) (([] : List Dv).map (Dv.v K)) [] (Ad.at K (.glo "_law_spans")) fd) : FnOk P w K mg base (L2.CX P w) 1 (Ad.at K (.glo "_law_spans")) fd ["_law_tags_here", "_law_links_here"] (spD K 2 (F__law_spans)) := by
  refine FnD.fnok (k := 0) F sc__law_spans (by decide) fun cdv A outer s H E hr => ?_
  have hN := sc__law_spans.nd
  have tk := takes_of (X := cxOf (L2.CX P w) P w K mg base N__law_spans "_law_spans" (defScope s__law_spans) (Ad.at K (.glo "_law_spans")) cdv A outer s H E) rfl rfl rfl rfl
  exact (dss_cons (ds_asg (tg_name 2) (DF.dp (w_listRg rfl h.n_list h.n_range (w_len h.n_len (dp_var (pv 0))))) (fun _ z => ps_set hN rfl (by first | exact .inl rfl | exact .inr rfl) z)) (dss_cons (ds_ownG' (ps_llG (own := [("_law_i", 7)]) rfl hN rfl rfl (sw_true rfl rfl rfl rfl) (di_seq (dp_var (pv 2))) (blk_ok rfl (by kernel_rfl) (by kernel_rfl) (by kernel_rfl) (by kernel_rfl)) (fun _ _ _ _ _ => (pg_name hN rfl (by first | exact .inl rfl | exact .inr rfl))) (tg_name 7) (by decide) (fun _ _ _ _ _ => dts_nil) (fun _ _ _ _ _ => (df_lc (own := [("_law_j", 8)]) rfl hN (di_seq (dp_var (pv 2))) (blk_ok rfl (by kernel_rfl) (by kernel_rfl) (by kernel_rfl) (by kernel_rfl)) (fun _ _ _ _ _ => (pg_name hN rfl (by first | exact .inl rfl | exact .inr rfl))) (tg_name 8) (by decide) (fun _ _ _ _ _ => dts_nil) (fun _ _ _ _ _ => (dp_if (t_eq hr (dp_var (pv 7)) (dp_var (pv 8))) dp_int dp_int)))))) (dss_cons (ds_for (passes_of rfl) rfl (di_seq (dp_var (pv 1))) (pg_tup rfl (pgs_cons (pg_name hN rfl (by first | exact .inl rfl | exact .inr rfl)) (pgs_cons (pg_name hN rfl (by first | exact .inl rfl | exact .inr rfl)) pgs_nil))) (TgOk.r (tg_tup (tgs_cons (tg_name 5) (tgs_cons (tg_name 6) tgs_nil)) (len_cons (len_cons len_nil)))) (dss_cons (ds_par2 (dv_val (DP.de (w_index hr (dp_var (pv 0)).weak (dp_var (pv 5)))) (dv_val (DP.de (w_index hr (dp_var (pv 0)).weak (dp_var (pv 6)))) dv_nil)) fun _ z => ps_par rfl hN rfl rfl (by decide) rfl rfl z (by rfl)) (dss_one (ds_asgM (tm_tup (tm_cons (tm_ix2 (i := 3) (g1 := (pVar 7)) (g2 := (pVar 8))) (tm_cons (tm_ix2 (i := 3) (g1 := (pVar 8)) (g2 := (pVar 7))) tm_nil)) (len_cons (len_cons len_nil))) (dp_tup (da_cons dp_int (da_cons dp_int da_nil))) (fun _ z => ps_asg z (pg_tup rfl (pgs_cons (pg_sub (pe_ix ix_list (pv 3) (DZ.run (dp_var (pv 7))) fun _ _ => rfl) (DZ.run (dp_var (pv 8))) set_list) (pgs_cons (pg_sub (pe_ix ix_list (pv 3) (DZ.run (dp_var (pv 8))) fun _ _ => rfl) (DZ.run (dp_var (pv 7))) set_list) pgs_nil)))))))) (dss_cons (ds_for (passes_of rfl) rfl (di_seq (dp_var (pv 2))) (pg_name hN rfl (by first | exact .inl rfl | exact .inr rfl)) (tg_name 4) (dss_one (ds_for (passes_of rfl) rfl (di_seq (dp_var (pv 2))) (pg_name hN rfl (by first | exact .inl rfl | exact .inr rfl)) (tg_name 7) (dss_one (ds_for (passes_of rfl) rfl (di_seq (dp_var (pv 2))) (pg_name hN rfl (by first | exact .inl rfl | exact .inr rfl)) (tg_name 8) (dss_one (ds_asgM (tm_ix2 (i := 3) (g1 := (pVar 7)) (g2 := (pVar 8))) (w_min3 rfl h.n_min (dp_ixLL (pv 3) (dp_var (pv 7)) (dp_var (pv 8))) (w_add (dp_ixLL (pv 3) (dp_var (pv 7)) (dp_var (pv 4))).weak (dp_ixLL (pv 3) (dp_var (pv 4)) (dp_var (pv 8))).weak) dp_int) (fun _ z => ps_asg z (pg_sub (pe_ix ix_list (pv 3) (DZ.run (dp_var (pv 7))) fun _ _ => rfl) (DZ.run (dp_var (pv 8))) set_list))))))))) (dss_one (ds_frz 3 (ds_ret (dp_var (pv 3)))))))))
theorem fo__law_spans {P : Program} {w : World} {K : Fg} {mg : Str → Option Value} {base : Heap} (h : Fx K mg) : ∃ fd, FnOk P w K mg base (L2.CX P w) 1 (Ad.at K (.glo "_law_spans")) fd ["_law_tags_here", "_law_links_here"] (spD K 2 (F__law_spans)) ∧ FunD K "_law_spans" "_law_spans" (defArgs s__law_spans) (defBody s__law_spans) (defScope s__law_spans) (([] : List Dv).map (Dv.v K)) [] (Ad.at K (.glo "_law_spans")) fd :=
  let ⟨fd, F⟩ := h.d__law_spans
  ⟨fd, fp__law_spans h F, F⟩
theorem ok__law_spans {P : Program} {w : World} {K : Fg} {mg : Str → Option Value} {base : Heap} (h : Fx K mg) : FnD P w K mg base 1 "_law_spans" ["_law_tags_here", "_law_links_here"] (F__law_spans) :=
  let ⟨fd, a, F⟩ := fo__law_spans h
  ⟨_, fd, a, h.g__law_spans, F.kp, F.bindsN fun _ _ _ _ _ _ us hl => match us, hl with | [_, _], _ => rfl⟩
/-! is_name -/
theorem fp_is_name {P : Program} {w : World} {K : Fg} {mg : Str → Option Value} {base : Heap} {fd : FuncData} (h : Fx K mg) (F : FunD K "is_name" "is_name" (defArgs s_is_name) (defBody s_is_name) (defScope s_is_name) (([] : List Dv).map (Dv.v K)) [] (Ad.at K (.glo "is_name")) fd) : FnOk P w K mg base (L2.CX P w) 1 (Ad.at K (.glo "is_name")) fd ["value"] (spD K 1 (F_is_name)) := by
  refine FnD.fnok (k := 0) F sc_is_name (by decide) fun cdv A outer s H E hr => ?_
  have hN := sc_is_name.nd
  have tk := takes_of (X := cxOf (L2.CX P w) P w K mg base N_is_name "is_name" (defScope s_is_name) (Ad.at K (.glo "is_name")) cdv A outer s H E) rfl rfl rfl rfl
  exact (dss_cons (ds_if (DW.dt (dw_or (dt_not (dt_val (w_isT h.n_isinstance h.n_str boot_str (by decide) (dp_var (pv 0))))) (dw_or1 (dt_not (t_lele dp_int.weak (w_len h.n_len (dp_var (pv 0))).weak (w_gint h.k_LONGEST_NAME).weak))))) (dss_one (ds_ret dp_bl)) dss_nil) (dss_one (ds_ret (dp_and (w_in hr (w_ix (dp_var (pv 0)).weak dp_int.weak) (w_gstr h.k_LETTERS)) (dp_one (w_all rfl h.n_all (DF.dp (df_lc (own := [("sign", 1)]) rfl hN (di_str (dp_var (pv 0))) (blk_ok rfl (by kernel_rfl) (by kernel_rfl) (by kernel_rfl) (by kernel_rfl)) (fun _ _ _ _ _ => (pg_name hN rfl (by first | exact .inl rfl | exact .inr rfl))) (tg_name 1) (by decide) (fun _ _ _ _ _ => dts_nil) (fun _ _ _ _ _ => (dp_or (w_in hr (dp_var (pv 1)) (w_gstr h.k_LETTERS)) (dp_one (w_in hr (dp_var (pv 1)) (w_gstr h.k_DIGITS))))))).weak))))))
theorem fo_is_name {P : Program} {w : World} {K : Fg} {mg : Str → Option Value} {base : Heap} (h : Fx K mg) : ∃ fd, FnOk P w K mg base (L2.CX P w) 1 (Ad.at K (.glo "is_name")) fd ["value"] (spD K 1 (F_is_name)) ∧ FunD K "is_name" "is_name" (defArgs s_is_name) (defBody s_is_name) (defScope s_is_name) (([] : List Dv).map (Dv.v K)) [] (Ad.at K (.glo "is_name")) fd :=
  let ⟨fd, F⟩ := h.d_is_name
  ⟨fd, fp_is_name h F, F⟩
theorem ok_is_name {P : Program} {w : World} {K : Fg} {mg : Str → Option Value} {base : Heap} (h : Fx K mg) : FnD P w K mg base 1 "is_name" ["value"] (F_is_name) :=
  let ⟨fd, a, F⟩ := fo_is_name h
  ⟨_, fd, a, h.g_is_name, F.kp, F.bindsN fun _ _ _ _ _ _ us hl => match us, hl with | [_], _ => rfl⟩
/-! wrong_town -/
theorem fp_wrong_town {P : Program} {w : World} {K : Fg} {mg : Str → Option Value} {base : Heap} {fd : FuncData} (h : Fx K mg) (F : FunD K "wrong_town" "wrong_town" (defArgs s_wrong_town) (defBody s_wrong_town) (defScope s_wrong_town) (([] : List Dv).map (Dv.v K)) [] (Ad.at K (.glo "wrong_town")) fd) : FnOk P w K mg base (L2.CX P w) 2 (Ad.at K (.glo "wrong_town")) fd ["towns"] (spD K 1 (F_wrong_town)) := by
  refine FnD.fnok (k := 1) F sc_wrong_town (by decide) fun cdv A outer s H E hr => ?_
  have hN := sc_wrong_town.nd
  have tk := takes_of (X := cxOf (L2.CX P w) P w K mg base N_wrong_town "wrong_town" (defScope s_wrong_town) (Ad.at K (.glo "wrong_town")) cdv A outer s H E) rfl rfl rfl rfl
  exact (dss_cons (ds_if (DW.dt (dw_or (dt_not (dt_val (w_isT h.n_isinstance h.n_tuple boot_tuple (by decide) (dp_var (pv 0))))) (dw_or1 (t_eq hr (w_len h.n_len (dp_var (pv 0))) dp_int)))) (dss_one (ds_ret (dp_tup (da_cons dp_non da_nil)))) dss_nil) (dss_cons (ds_for (passes_of rfl) rfl (w_enum h.n_enumerate (dp_var (pv 0))) (pg_tup rfl (pgs_cons (pg_name hN rfl (by first | exact .inl rfl | exact .inr rfl)) (pgs_cons (pg_name hN rfl (by first | exact .inl rfl | exact .inr rfl)) pgs_nil))) (tg_tup (tgs_cons (tg_name 1) (tgs_cons (tg_name 2) tgs_nil)) (len_cons (len_cons len_nil))) (dss_one (ds_if (DW.dt (dw_or (dt_not (dt_val (dp_call (FnD.cal ((ok_is_name h).mono (by decide)) hr (by rfl) tk) (da_cons (dp_var (pv 2)) da_nil) (len_aCons len_aNil)))) (dw_or (t_ge (dp_var (pv 1)).weak (w_gint h.k_MOST_TOWNS).weak) (dw_or1 (t_in hr (dp_var (pv 2)) (dp_slice (dp_var (pv 0)).weak do_none (do_some (dp_var (pv 1))))))))) (dss_one (ds_ret (dp_tup (da_cons (dp_var (pv 1)) da_nil)))) dss_nil))) (dss_one (ds_ret (dp_tup da_nil)))))
theorem fo_wrong_town {P : Program} {w : World} {K : Fg} {mg : Str → Option Value} {base : Heap} (h : Fx K mg) : ∃ fd, FnOk P w K mg base (L2.CX P w) 2 (Ad.at K (.glo "wrong_town")) fd ["towns"] (spD K 1 (F_wrong_town)) ∧ FunD K "wrong_town" "wrong_town" (defArgs s_wrong_town) (defBody s_wrong_town) (defScope s_wrong_town) (([] : List Dv).map (Dv.v K)) [] (Ad.at K (.glo "wrong_town")) fd :=
  let ⟨fd, F⟩ := h.d_wrong_town
  ⟨fd, fp_wrong_town h F, F⟩
theorem ok_wrong_town {P : Program} {w : World} {K : Fg} {mg : Str → Option Value} {base : Heap} (h : Fx K mg) : FnD P w K mg base 2 "wrong_town" ["towns"] (F_wrong_town) :=
  let ⟨fd, a, F⟩ := fo_wrong_town h
  ⟨_, fd, a, h.g_wrong_town, F.kp, F.bindsN fun _ _ _ _ _ _ us hl => match us, hl with | [_], _ => rfl⟩
/-! is_pair -/
theorem fp_is_pair {P : Program} {w : World} {K : Fg} {mg : Str → Option Value} {base : Heap} {fd : FuncData} (h : Fx K mg) (F : FunD K "is_pair" "is_pair" (defArgs s_is_pair) (defBody s_is_pair) (defScope s_is_pair) (([] : List Dv).map (Dv.v K)) [] (Ad.at K (.glo "is_pair")) fd) : FnOk P w K mg base (L2.CX P w) 1 (Ad.at K (.glo "is_pair")) fd ["towns", "value"] (spD K 2 (F_is_pair)) := by
  refine FnD.fnok (k := 0) F sc_is_pair (by decide) fun cdv A outer s H E hr => ?_
  have hN := sc_is_pair.nd
  have tk := takes_of (X := cxOf (L2.CX P w) P w K mg base N_is_pair "is_pair" (defScope s_is_pair) (Ad.at K (.glo "is_pair")) cdv A outer s H E) rfl rfl rfl rfl
  exact (dss_cons (ds_if (DW.dt (dw_or (dt_not (dt_val (w_isT h.n_isinstance h.n_tuple boot_tuple (by decide) (dp_var (pv 1))))) (dw_or (t_ne hr (w_len h.n_len (dp_var (pv 1))) dp_int) (dw_or (t_nin hr (w_ix (dp_var (pv 1)).weak dp_int.weak) (dp_var (pv 0))) (dw_or1 (t_nin hr (w_ix (dp_var (pv 1)).weak dp_int.weak) (dp_var (pv 0)))))))) (dss_one (ds_ret dp_bl)) dss_nil) (dss_one (ds_ret (w_ne hr (w_ix (dp_var (pv 1)).weak dp_int.weak) (w_ix (dp_var (pv 1)).weak dp_int.weak)))))
theorem fo_is_pair {P : Program} {w : World} {K : Fg} {mg : Str → Option Value} {base : Heap} (h : Fx K mg) : ∃ fd, FnOk P w K mg base (L2.CX P w) 1 (Ad.at K (.glo "is_pair")) fd ["towns", "value"] (spD K 2 (F_is_pair)) ∧ FunD K "is_pair" "is_pair" (defArgs s_is_pair) (defBody s_is_pair) (defScope s_is_pair) (([] : List Dv).map (Dv.v K)) [] (Ad.at K (.glo "is_pair")) fd :=
  let ⟨fd, F⟩ := h.d_is_pair
  ⟨fd, fp_is_pair h F, F⟩
theorem ok_is_pair {P : Program} {w : World} {K : Fg} {mg : Str → Option Value} {base : Heap} (h : Fx K mg) : FnD P w K mg base 1 "is_pair" ["towns", "value"] (F_is_pair) :=
  let ⟨fd, a, F⟩ := fo_is_pair h
  ⟨_, fd, a, h.g_is_pair, F.kp, F.bindsN fun _ _ _ _ _ _ us hl => match us, hl with | [_, _], _ => rfl⟩
/-! is_tied -/
theorem fp_is_tied {P : Program} {w : World} {K : Fg} {mg : Str → Option Value} {base : Heap} {fd : FuncData} (h : Fx K mg) (F : FunD K "is_tied" "is_tied" (defArgs s_is_tied) (defBody s_is_tied) (defScope s_is_tied) (([] : List Dv).map (Dv.v K)) [] (Ad.at K (.glo "is_tied")) fd) : FnOk P w K mg base (L2.CX P w) 1 (Ad.at K (.glo "is_tied")) fd ["ties", "one", "two"] (spD K 3 (F_is_tied)) := by
  refine FnD.fnok (k := 0) F sc_is_tied (by decide) fun cdv A outer s H E hr => ?_
  have hN := sc_is_tied.nd
  have tk := takes_of (X := cxOf (L2.CX P w) P w K mg base N_is_tied "is_tied" (defScope s_is_tied) (Ad.at K (.glo "is_tied")) cdv A outer s H E) rfl rfl rfl rfl
  exact (dss_one (ds_ret (dp_or (w_in hr (dp_tup (da_cons (dp_var (pv 1)) (da_cons (dp_var (pv 2)) da_nil))) (dp_var (pv 0))) (dp_one (w_in hr (dp_tup (da_cons (dp_var (pv 2)) (da_cons (dp_var (pv 1)) da_nil))) (dp_var (pv 0)))))))
theorem fo_is_tied {P : Program} {w : World} {K : Fg} {mg : Str → Option Value} {base : Heap} (h : Fx K mg) : ∃ fd, FnOk P w K mg base (L2.CX P w) 1 (Ad.at K (.glo "is_tied")) fd ["ties", "one", "two"] (spD K 3 (F_is_tied)) ∧ FunD K "is_tied" "is_tied" (defArgs s_is_tied) (defBody s_is_tied) (defScope s_is_tied) (([] : List Dv).map (Dv.v K)) [] (Ad.at K (.glo "is_tied")) fd :=
  let ⟨fd, F⟩ := h.d_is_tied
  ⟨fd, fp_is_tied h F, F⟩
theorem ok_is_tied {P : Program} {w : World} {K : Fg} {mg : Str → Option Value} {base : Heap} (h : Fx K mg) : FnD P w K mg base 1 "is_tied" ["ties", "one", "two"] (F_is_tied) :=
  let ⟨fd, a, F⟩ := fo_is_tied h
  ⟨_, fd, a, h.g_is_tied, F.kp, F.bindsN fun _ _ _ _ _ _ us hl => match us, hl with | [_, _, _], _ => rfl⟩
/-! wrong_tie -/
theorem fp_wrong_tie {P : Program} {w : World} {K : Fg} {mg : Str → Option Value} {base : Heap} {fd : FuncData} (h : Fx K mg) (F : FunD K "wrong_tie" "wrong_tie" (defArgs s_wrong_tie) (defBody s_wrong_tie) (defScope s_wrong_tie) (([] : List Dv).map (Dv.v K)) [] (Ad.at K (.glo "wrong_tie")) fd) : FnOk P w K mg base (L2.CX P w) 2 (Ad.at K (.glo "wrong_tie")) fd ["towns", "ties"] (spD K 2 (F_wrong_tie)) := by
  refine FnD.fnok (k := 1) F sc_wrong_tie (by decide) fun cdv A outer s H E hr => ?_
  have hN := sc_wrong_tie.nd
  have tk := takes_of (X := cxOf (L2.CX P w) P w K mg base N_wrong_tie "wrong_tie" (defScope s_wrong_tie) (Ad.at K (.glo "wrong_tie")) cdv A outer s H E) rfl rfl rfl rfl
  exact (dss_cons (ds_if (dt_not (dt_val (w_isT h.n_isinstance h.n_tuple boot_tuple (by decide) (dp_var (pv 1))))) (dss_one (ds_ret (dp_tup (da_cons dp_non da_nil)))) dss_nil) (dss_cons (ds_for (passes_of rfl) rfl (w_enum h.n_enumerate (dp_var (pv 1))) (pg_tup rfl (pgs_cons (pg_name hN rfl (by first | exact .inl rfl | exact .inr rfl)) (pgs_cons (pg_name hN rfl (by first | exact .inl rfl | exact .inr rfl)) pgs_nil))) (tg_tup (tgs_cons (tg_name 2) (tgs_cons (tg_name 3) tgs_nil)) (len_cons (len_cons len_nil))) (dss_one (ds_if (DW.dt (dw_or (dt_not (dt_val (dp_call (FnD.cal ((ok_is_pair h).mono (by decide)) hr (by rfl) tk) (da_cons (dp_var (pv 0)) (da_cons (dp_var (pv 3)) da_nil)) (len_aCons (len_aCons len_aNil))))) (dw_or (t_ge (dp_var (pv 2)).weak (w_gint h.k_MOST_TIES).weak) (dw_or1 (dt_val (dp_call (FnD.cal ((ok_is_tied h).mono (by decide)) hr (by rfl) tk) (da_cons (dp_slice (dp_var (pv 1)).weak do_none (do_some (dp_var (pv 2)))) (da_cons (w_ix (dp_var (pv 3)).weak dp_int.weak) (da_cons (w_ix (dp_var (pv 3)).weak dp_int.weak) da_nil))) (len_aCons (len_aCons (len_aCons len_aNil))))))))) (dss_one (ds_ret (dp_tup (da_cons (dp_var (pv 2)) da_nil)))) dss_nil))) (dss_one (ds_ret (dp_tup da_nil)))))
theorem fo_wrong_tie {P : Program} {w : World} {K : Fg} {mg : Str → Option Value} {base : Heap} (h : Fx K mg) : ∃ fd, FnOk P w K mg base (L2.CX P w) 2 (Ad.at K (.glo "wrong_tie")) fd ["towns", "ties"] (spD K 2 (F_wrong_tie)) ∧ FunD K "wrong_tie" "wrong_tie" (defArgs s_wrong_tie) (defBody s_wrong_tie) (defScope s_wrong_tie) (([] : List Dv).map (Dv.v K)) [] (Ad.at K (.glo "wrong_tie")) fd :=
  let ⟨fd, F⟩ := h.d_wrong_tie
  ⟨fd, fp_wrong_tie h F, F⟩
theorem ok_wrong_tie {P : Program} {w : World} {K : Fg} {mg : Str → Option Value} {base : Heap} (h : Fx K mg) : FnD P w K mg base 2 "wrong_tie" ["towns", "ties"] (F_wrong_tie) :=
  let ⟨fd, a, F⟩ := fo_wrong_tie h
  ⟨_, fd, a, h.g_wrong_tie, F.kp, F.bindsN fun _ _ _ _ _ _ us hl => match us, hl with | [_, _], _ => rfl⟩
/-! distances_from -/
theorem fp_distances_from {P : Program} {w : World} {K : Fg} {mg : Str → Option Value} {base : Heap} {fd : FuncData} (h : Fx K mg) (F : FunD K "distances_from" "distances_from" (defArgs s_distances_from) (defBody s_distances_from) (defScope s_distances_from) (([] : List Dv).map (Dv.v K)) [] (Ad.at K (.glo "distances_from")) fd) : FnOk P w K mg base (L2.CX P w) 1 (Ad.at K (.glo "distances_from")) fd ["near", "start"] (spD K 2 (F_distances_from)) := by
  refine FnD.fnok (k := 0) F sc_distances_from (by decide) fun cdv A outer s H E hr => ?_
  have hN := sc_distances_from.nd
  have tk := takes_of (X := cxOf (L2.CX P w) P w K mg base N_distances_from "distances_from" (defScope s_distances_from) (Ad.at K (.glo "distances_from")) cdv A outer s H E) rfl rfl rfl rfl
  exact (dss_cons (ds_par3 (dv_fr (df_lc (own := [("place", 6)]) rfl hN (di_seq (dp_var (pv 0))) (blk_ok rfl (by kernel_rfl) (by kernel_rfl) (by kernel_rfl) (by kernel_rfl)) (fun _ _ _ _ _ => (pg_name hN rfl (by first | exact .inl rfl | exact .inr rfl))) (tg_name 6) (by decide) (fun _ _ _ _ _ => dts_nil) (fun _ _ _ _ _ => dp_non)) (dv_val (DP.de (DF.dp (df_lst (da_cons (dp_var (pv 1)) da_nil)))) (dv_val (DP.de dp_int) dv_nil))) fun _ z => ps_par3 rfl hN rfl rfl rfl (by decide) (by decide) (by decide) rfl rfl rfl z (by rfl)) (dss_cons (ds_asgM (tm_ix (i := 2) (g := (pVar 1))) dp_int (fun _ z => ps_asg z (pg_sub (pv 2) (DZ.run (dp_var (pv 1))) set_list))) (dss_cons (ds_while (n := 64) (passes_of rfl) (t_ne hr (dp_var (pv 3)) (DF.dp (df_lst da_nil))) (dss_cons (w_augAdd hN (DP.de dp_int)) (dss_cons (ds_own (df_lst da_nil) (fun _ z => ps_set hN rfl (by first | exact .inl rfl | exact .inr rfl) z)) (dss_cons (ds_for (passes_of rfl) rfl (di_seq (dp_var (pv 3))) (pg_name hN rfl (by first | exact .inl rfl | exact .inr rfl)) (tg_name 6) (dss_one (ds_for (passes_of rfl) rfl (di_seq (w_ix (dp_var (pv 0)).weak (dp_var (pv 6)).weak)) (pg_name hN rfl (by first | exact .inl rfl | exact .inr rfl)) (tg_name 7) (dss_one (ds_if (t_is (w_ix (dq_var (pv 2)) (dp_var (pv 7)).weak) dp_non) (dss_cons (ds_asgM (tm_ix (i := 2) (g := (pVar 7))) (dp_var (pv 4)) (fun _ z => ps_asg z (pg_sub (pv 2) (DZ.run (dp_var (pv 7))) set_list))) (dss_one (ds_exprE (w_append (pv 5) (DP.de (dp_var (pv 7))))))) dss_nil))))) (dss_one (ds_frz 5 (ds_asg (tg_name 3) (dp_var (pv 5)) (fun _ z => ps_set hN rfl (by first | exact .inl rfl | exact .inr rfl) z)))))))) (dss_one (ds_frz 2 (ds_ret (dp_var (pv 2))))))))
theorem fo_distances_from {P : Program} {w : World} {K : Fg} {mg : Str → Option Value} {base : Heap} (h : Fx K mg) : ∃ fd, FnOk P w K mg base (L2.CX P w) 1 (Ad.at K (.glo "distances_from")) fd ["near", "start"] (spD K 2 (F_distances_from)) ∧ FunD K "distances_from" "distances_from" (defArgs s_distances_from) (defBody s_distances_from) (defScope s_distances_from) (([] : List Dv).map (Dv.v K)) [] (Ad.at K (.glo "distances_from")) fd :=
  let ⟨fd, F⟩ := h.d_distances_from
  ⟨fd, fp_distances_from h F, F⟩
theorem ok_distances_from {P : Program} {w : World} {K : Fg} {mg : Str → Option Value} {base : Heap} (h : Fx K mg) : FnD P w K mg base 1 "distances_from" ["near", "start"] (F_distances_from) :=
  let ⟨fd, a, F⟩ := fo_distances_from h
  ⟨_, fd, a, h.g_distances_from, F.kp, F.bindsN fun _ _ _ _ _ _ us hl => match us, hl with | [_, _], _ => rfl⟩
/-! neighbours -/
theorem fp_neighbours {P : Program} {w : World} {K : Fg} {mg : Str → Option Value} {base : Heap} {fd : FuncData} (h : Fx K mg) (F : FunD K "neighbours" "neighbours" (defArgs s_neighbours) (defBody s_neighbours) (defScope s_neighbours) (([] : List Dv).map (Dv.v K)) [] (Ad.at K (.glo "neighbours")) fd) : FnOk P w K mg base (L2.CX P w) 1 (Ad.at K (.glo "neighbours")) fd ["towns", "ties"] (spD K 2 (F_neighbours)) := by
  refine FnD.fnok (k := 0) F sc_neighbours (by decide) fun cdv A outer s H E hr => ?_
  have hN := sc_neighbours.nd
  have tk := takes_of (X := cxOf (L2.CX P w) P w K mg base N_neighbours "neighbours" (defScope s_neighbours) (Ad.at K (.glo "neighbours")) cdv A outer s H E) rfl rfl rfl rfl
  exact (dss_cons (ds_ownG' (ps_llG (own := [("town", 5)]) rfl hN rfl rfl (sw_true rfl rfl rfl rfl) (di_seq (dp_var (pv 0))) (blk_ok rfl (by kernel_rfl) (by kernel_rfl) (by kernel_rfl) (by kernel_rfl)) (fun _ _ _ _ _ => (pg_name hN rfl (by first | exact .inl rfl | exact .inr rfl))) (tg_name 5) (by decide) (fun _ _ _ _ _ => dts_nil) (fun _ _ _ _ _ => (df_lst da_nil)))) (dss_cons (ds_for (passes_of rfl) rfl (di_seq (dp_var (pv 1))) (pg_tup rfl (pgs_cons (pg_name hN rfl (by first | exact .inl rfl | exact .inr rfl)) (pgs_cons (pg_name hN rfl (by first | exact .inl rfl | exact .inr rfl)) pgs_nil))) (TgOk.r (tg_tup (tgs_cons (tg_name 3) (tgs_cons (tg_name 4) tgs_nil)) (len_cons (len_cons len_nil)))) (dss_cons (ds_par2 (dv_val (DP.de (w_index hr (dp_var (pv 0)).weak (dp_var (pv 3)))) (dv_val (DP.de (w_index hr (dp_var (pv 0)).weak (dp_var (pv 4)))) dv_nil)) fun _ z => ps_par rfl hN rfl rfl (by decide) rfl rfl z (by rfl)) (dss_cons (ds_exprE (w_appLL (pv 2) (dp_var (pv 6)) (dp_var (pv 7)))) (dss_one (ds_exprE (w_appLL (pv 2) (dp_var (pv 7)) (dp_var (pv 6)))))))) (dss_one (ds_frz 2 (ds_ret (dp_var (pv 2)))))))
theorem fo_neighbours {P : Program} {w : World} {K : Fg} {mg : Str → Option Value} {base : Heap} (h : Fx K mg) : ∃ fd, FnOk P w K mg base (L2.CX P w) 1 (Ad.at K (.glo "neighbours")) fd ["towns", "ties"] (spD K 2 (F_neighbours)) ∧ FunD K "neighbours" "neighbours" (defArgs s_neighbours) (defBody s_neighbours) (defScope s_neighbours) (([] : List Dv).map (Dv.v K)) [] (Ad.at K (.glo "neighbours")) fd :=
  let ⟨fd, F⟩ := h.d_neighbours
  ⟨fd, fp_neighbours h F, F⟩
theorem ok_neighbours {P : Program} {w : World} {K : Fg} {mg : Str → Option Value} {base : Heap} (h : Fx K mg) : FnD P w K mg base 1 "neighbours" ["towns", "ties"] (F_neighbours) :=
  let ⟨fd, a, F⟩ := fo_neighbours h
  ⟨_, fd, a, h.g_neighbours, F.kp, F.bindsN fun _ _ _ _ _ _ us hl => match us, hl with | [_, _], _ => rfl⟩
/-! first_apart -/
theorem fp_first_apart {P : Program} {w : World} {K : Fg} {mg : Str → Option Value} {base : Heap} {fd : FuncData} (h : Fx K mg) (F : FunD K "first_apart" "first_apart" (defArgs s_first_apart) (defBody s_first_apart) (defScope s_first_apart) (([] : List Dv).map (Dv.v K)) [] (Ad.at K (.glo "first_apart")) fd) : FnOk P w K mg base (L2.CX P w) 2 (Ad.at K (.glo "first_apart")) fd ["towns", "ties"] (spD K 2 (F_first_apart)) := by
  refine FnD.fnok (k := 1) F sc_first_apart (by decide) fun cdv A outer s H E hr => ?_
  have hN := sc_first_apart.nd
  have tk := takes_of (X := cxOf (L2.CX P w) P w K mg base N_first_apart "first_apart" (defScope s_first_apart) (Ad.at K (.glo "first_apart")) cdv A outer s H E) rfl rfl rfl rfl
  exact (dss_cons (ds_asg (tg_name 2) (dp_call (FnD.cal ((ok_distances_from h).mono (by decide)) hr (by rfl) tk) (da_cons (dp_call (FnD.cal ((ok_neighbours h).mono (by decide)) hr (by rfl) tk) (da_cons (dp_var (pv 0)) (da_cons (dp_var (pv 1)) da_nil)) (len_aCons (len_aCons len_aNil))) (da_cons dp_int da_nil)) (len_aCons (len_aCons len_aNil))) (fun _ z => ps_set hN rfl (by first | exact .inl rfl | exact .inr rfl) z)) (dss_one (ds_ret (dp_if (t_in hr dp_non (dp_var (pv 2))) (w_ix (dp_var (pv 0)).weak (w_index hr (dp_var (pv 2)).weak dp_non).weak) dp_non))))
theorem fo_first_apart {P : Program} {w : World} {K : Fg} {mg : Str → Option Value} {base : Heap} (h : Fx K mg) : ∃ fd, FnOk P w K mg base (L2.CX P w) 2 (Ad.at K (.glo "first_apart")) fd ["towns", "ties"] (spD K 2 (F_first_apart)) ∧ FunD K "first_apart" "first_apart" (defArgs s_first_apart) (defBody s_first_apart) (defScope s_first_apart) (([] : List Dv).map (Dv.v K)) [] (Ad.at K (.glo "first_apart")) fd :=
  let ⟨fd, F⟩ := h.d_first_apart
  ⟨fd, fp_first_apart h F, F⟩
theorem ok_first_apart {P : Program} {w : World} {K : Fg} {mg : Str → Option Value} {base : Heap} (h : Fx K mg) : FnD P w K mg base 2 "first_apart" ["towns", "ties"] (F_first_apart) :=
  let ⟨fd, a, F⟩ := fo_first_apart h
  ⟨_, fd, a, h.g_first_apart, F.kp, F.bindsN fun _ _ _ _ _ _ us hl => match us, hl with | [_, _], _ => rfl⟩
/-! all_distances -/
theorem fp_all_distances {P : Program} {w : World} {K : Fg} {mg : Str → Option Value} {base : Heap} {fd : FuncData} (h : Fx K mg) (F : FunD K "all_distances" "all_distances" (defArgs s_all_distances) (defBody s_all_distances) (defScope s_all_distances) (([] : List Dv).map (Dv.v K)) [] (Ad.at K (.glo "all_distances")) fd) : FnOk P w K mg base (L2.CX P w) 2 (Ad.at K (.glo "all_distances")) fd ["towns", "ties"] (spD K 2 (F_all_distances)) := by
  refine FnD.fnok (k := 1) F sc_all_distances (by decide) fun cdv A outer s H E hr => ?_
  have hN := sc_all_distances.nd
  have tk := takes_of (X := cxOf (L2.CX P w) P w K mg base N_all_distances "all_distances" (defScope s_all_distances) (Ad.at K (.glo "all_distances")) cdv A outer s H E) rfl rfl rfl rfl
  exact (dss_cons (ds_asg (tg_name 2) (dp_call (FnD.cal ((ok_neighbours h).mono (by decide)) hr (by rfl) tk) (da_cons (dp_var (pv 0)) (da_cons (dp_var (pv 1)) da_nil)) (len_aCons (len_aCons len_aNil))) (fun _ z => ps_set hN rfl (by first | exact .inl rfl | exact .inr rfl) z)) (dss_one (ds_ret (DF.dp (df_lc (own := [("start", 3)]) rfl hN (w_range1 h.n_range (w_len h.n_len (dp_var (pv 0)))) (blk_ok rfl (by kernel_rfl) (by kernel_rfl) (by kernel_rfl) (by kernel_rfl)) (fun _ _ _ _ _ => (pg_name hN rfl (by first | exact .inl rfl | exact .inr rfl))) (tg_name 3) (by decide) (fun _ _ _ _ _ => dts_nil) (fun _ _ _ _ _ => (dp_call (FnD.cal ((ok_distances_from h).mono (by decide)) hr (by rfl) takes0) (da_cons (dp_var (pv 2)) (da_cons (dp_var (pv 3)) da_nil)) (len_aCons (len_aCons len_aNil)))))))))
theorem fo_all_distances {P : Program} {w : World} {K : Fg} {mg : Str → Option Value} {base : Heap} (h : Fx K mg) : ∃ fd, FnOk P w K mg base (L2.CX P w) 2 (Ad.at K (.glo "all_distances")) fd ["towns", "ties"] (spD K 2 (F_all_distances)) ∧ FunD K "all_distances" "all_distances" (defArgs s_all_distances) (defBody s_all_distances) (defScope s_all_distances) (([] : List Dv).map (Dv.v K)) [] (Ad.at K (.glo "all_distances")) fd :=
  let ⟨fd, F⟩ := h.d_all_distances
  ⟨fd, fp_all_distances h F, F⟩
theorem ok_all_distances {P : Program} {w : World} {K : Fg} {mg : Str → Option Value} {base : Heap} (h : Fx K mg) : FnD P w K mg base 2 "all_distances" ["towns", "ties"] (F_all_distances) :=
  let ⟨fd, a, F⟩ := fo_all_distances h
  ⟨_, fd, a, h.g_all_distances, F.kp, F.bindsN fun _ _ _ _ _ _ us hl => match us, hl with | [_, _], _ => rfl⟩
/-! Web.__init__ -/
theorem fp_Web___init__ {P : Program} {w : World} {K : Fg} {mg : Str → Option Value} {base : Heap} {fd : FuncData} (h : Fx K mg) (F : FunD K "__init__" "Web.__init__" (defArgs s_Web___init__) (defBody s_Web___init__) (defScope s_Web___init__) ([.adr (dflAt ("Web", some "__init__") 0)].map (Dv.v K)) [] (Ad.at K (.mem "Web" "__init__")) fd) : FnOk P w K mg base (L2.CX P w) 3 (Ad.at K (.mem "Web" "__init__")) fd ["self", "towns", "ties"] (spD K 3 (F_Web___init__ K)) := by
  refine FnD.fnok (k := 2) F sc_Web___init__ (by decide) fun cdv A outer s H E hr => ?_
  have hN := sc_Web___init__.nd
  have tk := takes_of (X := cxOf (L2.CX P w) P w K mg base N_Web___init__ "Web.__init__" (defScope s_Web___init__) (Ad.at K (.mem "Web" "__init__")) cdv A outer s H E) rfl rfl rfl rfl
  exact (dss_cons (ds_asg (tg_name 3) (dp_call (FnD.cal ((ok_wrong_town h).mono (by decide)) hr (by rfl) tk) (da_cons (dp_var (pv 1)) da_nil) (len_aCons len_aNil)) (fun _ z => ps_set hN rfl (by first | exact .inl rfl | exact .inr rfl) z)) (dss_cons (ds_if (t_ne hr (dp_var (pv 3)) (dp_tup da_nil)) (dss_one ds_never) dss_nil) (dss_cons (ds_asg (tg_name 3) (dp_call (FnD.cal ((ok_wrong_tie h).mono (by decide)) hr (by rfl) tk) (da_cons (dp_var (pv 1)) (da_cons (dp_var (pv 2)) da_nil)) (len_aCons (len_aCons len_aNil))) (fun _ z => ps_set hN rfl (by first | exact .inl rfl | exact .inr rfl) z)) (dss_cons (ds_if (t_ne hr (dp_var (pv 3)) (dp_tup da_nil)) (dss_one ds_never) dss_nil) (dss_cons (ds_asg (tg_name 4) (dp_call (FnD.cal ((ok_first_apart h).mono (by decide)) hr (by rfl) tk) (da_cons (dp_var (pv 1)) (da_cons (dp_var (pv 2)) da_nil)) (len_aCons (len_aCons len_aNil))) (fun _ z => ps_set hN rfl (by first | exact .inl rfl | exact .inr rfl) z)) (dss_cons (ds_if (t_isn (dp_var (pv 4)) dp_non) (dss_one ds_never) dss_nil) (dss_cons (ds_setF h.c_Web.c h.a_Web_places (pv 0) (DP.de (dp_var (pv 1)))) (dss_cons (ds_setF h.c_Web.c h.a_Web_roads (pv 0) (DP.de (dp_var (pv 2)))) (dss_cons (ds_setF h.c_Web.c h.a_Web_ways (pv 0) (DP.de (dp_call (FnD.cal ((ok_all_distances h).mono (by decide)) hr (by rfl) tk) (da_cons (dp_var (pv 1)) (da_cons (dp_var (pv 2)) da_nil)) (len_aCons (len_aCons len_aNil))))) (dss_one (ds_setF h.c_Web.c h.a_Web_pairs (pv 0) (DP.de (w_tuple h.n_tuple (DF.dp (df_lc (own := [("one", 5), ("two", 6)]) rfl hN (di_seq (dp_var (pv 2))) (blk_ok rfl (by kernel_rfl) (by kernel_rfl) (by kernel_rfl) (by kernel_rfl)) (fun _ _ _ _ _ => (pg_tup rfl (pgs_cons (pg_name hN rfl (by first | exact .inl rfl | exact .inr rfl)) (pgs_cons (pg_name hN rfl (by first | exact .inl rfl | exact .inr rfl)) pgs_nil)))) (TgOk.r (tg_tup (tgs_cons (tg_name 5) (tgs_cons (tg_name 6) tgs_nil)) (len_cons (len_cons len_nil)))) (by decide) (fun _ _ _ _ _ => dts_nil) (fun _ _ _ _ _ => (dp_tup (da_cons (w_index hr (dp_var (pv 1)).weak (dp_var (pv 5))) (da_cons (w_index hr (dp_var (pv 1)).weak (dp_var (pv 6))) da_nil)))))).weak)))))))))))))
theorem fo_Web___init__ {P : Program} {w : World} {K : Fg} {mg : Str → Option Value} {base : Heap} (h : Fx K mg) : ∃ fd, FnOk P w K mg base (L2.CX P w) 3 (Ad.at K (.mem "Web" "__init__")) fd ["self", "towns", "ties"] (spD K 3 (F_Web___init__ K)) ∧ FunD K "__init__" "Web.__init__" (defArgs s_Web___init__) (defBody s_Web___init__) (defScope s_Web___init__) ([.adr (dflAt ("Web", some "__init__") 0)].map (Dv.v K)) [] (Ad.at K (.mem "Web" "__init__")) fd :=
  let ⟨fd, F⟩ := h.d_Web___init__
  ⟨fd, fp_Web___init__ h F, F⟩
theorem kw_Web___init___2 {X : Cx} {W : WX} {k : Nat} (h : Fx X.K X.mg) (hr : Room k X.A) (hg : Gl X "Web") (tk : Takes X W) (hk : 4 ≤ k := by decide) : CalA X W "Web" 2 [] [(.tup [])] (fun all H Q E => ∀ y dx, H y = none → H dx = none → dx ≠ y → spD X.K 3 (F_Web___init__ X.K) (.ref y :: pick [0, 1] all) (upd (upd H dx (.own y)) y (.ins (ga X.K "Web") dx [])) (fun v H2 => v = .non ∧ Q (.ref y) H2) E) := by
  obtain ⟨fd, a, F⟩ := fo_Web___init__ (P := X.prog) (w := X.w) (base := X.base) h
  have b : KwB X.K fd ["self", "towns", "ties"] 1 2 [] [Dv.v X.K (.adr (dflAt ("Web", some "__init__") 0))] [0, 1] := kwbD F (by simp) fun T kV doc pm an cdv ct first us its ws h0 h1 h2 h3 => match first, us, its, ws, h0, h1, h2, h3 with | [_], [_, _], [_], [], _, _, _, _ => ⟨_, rfl, rfl⟩
  have hr2 : Room (k - 1 + 1) X.A := hr.mono (by omega)
  exact ⟨⟨_, [Dv.v X.K (.adr (dflAt ("Web", some "__init__") 0))], h.g_Web, h.m_Web.kp, fun G => (.cons (h.t_Web___init___0 G) .nil), (runs_make h.m_Web (a.mono (by omega : 3 ≤ k - 1)) hr2 b tk)⟩, hg, by decide⟩
/-! _law_on_ways -/
theorem fp__law_on_ways {P : Program} {w : World} {K : Fg} {mg : Str → Option Value} {base : Heap} {fd : FuncData} (h : Fx K mg) (F : FunD K "_law_on_ways" "_law_on_ways" (defArgs s__law_on_ways) (defBody s__law_on_ways) (defScope s__law_on_ways) (([] : List Dv).map (Dv.v K)) [] (Ad.at K (.glo "_law_on_ways")) fd) : FnOk P w K mg base (L2.CX P w) 1 (Ad.at K (.glo "_law_on_ways")) fd ["_law_tags_here", "_law_links_here", "_law_found", "_law_i", "_law_j"] (spD K 5 (F__law_on_ways)) := by
  refine FnD.fnok (k := 0) F sc__law_on_ways (by decide) fun cdv A outer s H E hr => ?_
  have hN := sc__law_on_ways.nd
  have tk := takes_of (X := cxOf (L2.CX P w) P w K mg base N__law_on_ways "_law_on_ways" (defScope s__law_on_ways) (Ad.at K (.glo "_law_on_ways")) cdv A outer s H E) rfl rfl rfl rfl
  exact (dss_cons (ds_par2 (dv_val (DP.de (DF.dp (df_lst (da_cons (dp_var (pv 3)) da_nil)))) (dv_val (DP.de (DF.dp (df_lst (da_cons (dp_var (pv 3)) da_nil)))) dv_nil)) fun _ z => ps_par rfl hN rfl rfl (by decide) rfl rfl z (by rfl)) (dss_cons (ds_for (passes_of rfl) rfl (w_range1 h.n_range (w_ix (w_ix (dp_var (pv 2)).weak (dp_var (pv 3)).weak).weak (dp_var (pv 4)).weak)) (pg_name hN rfl (by first | exact .inl rfl | exact .inr rfl)) (tg_name 5) (dss_cons (ds_own (df_lst da_nil) (fun _ z => ps_set hN rfl (by first | exact .inl rfl | exact .inr rfl) z)) (dss_cons (ds_for (passes_of rfl) rfl (di_seq (dp_var (pv 6))) (pg_name hN rfl (by first | exact .inl rfl | exact .inr rfl)) (tg_name 9) (dss_one (ds_for (passes_of rfl) rfl (di_seq (w_add (dp_var (pv 1)).weak (w_tuple h.n_tuple (DF.dp (df_lc (own := [("_law_pair", 12)]) rfl hN (di_seq (dp_var (pv 1))) (blk_ok rfl (by kernel_rfl) (by kernel_rfl) (by kernel_rfl) (by kernel_rfl)) (fun _ _ _ _ _ => (pg_name hN rfl (by first | exact .inl rfl | exact .inr rfl))) (tg_name 12) (by decide) (fun _ _ _ _ _ => dts_nil) (fun _ _ _ _ _ => (w_rev (dp_var (pv 12)).weak)))).weak).weak)) (pg_tup rfl (pgs_cons (pg_name hN rfl (by first | exact .inl rfl | exact .inr rfl)) (pgs_cons (pg_name hN rfl (by first | exact .inl rfl | exact .inr rfl)) pgs_nil))) (TgOk.r (tg_tup (tgs_cons (tg_name 10) (tgs_cons (tg_name 11) tgs_nil)) (len_cons (len_cons len_nil)))) (dss_one (ds_if (DW.dt (dw_and (t_eq hr (w_index hr (dp_var (pv 0)).weak (dp_var (pv 10))) (dp_var (pv 9))) (dw_and (t_eq hr (w_ix (w_ix (dp_var (pv 2)).weak (w_index hr (dp_var (pv 0)).weak (dp_var (pv 11))).weak).weak (dp_var (pv 4)).weak) (w_sub (w_ix (w_ix (dp_var (pv 2)).weak (dp_var (pv 9)).weak).weak (dp_var (pv 4)).weak).weak dp_int.weak)) (dw_and1 (t_nin hr (w_index hr (dp_var (pv 0)).weak (dp_var (pv 11))) (dr_var (pv 8))))))) (dss_one (ds_exprE (w_append (pv 8) (DP.de (w_index hr (dp_var (pv 0)).weak (dp_var (pv 11))))))) dss_nil))))) (dss_cons (ds_frz 8 (ds_asg (tg_name 6) (dp_var (pv 8)) (fun _ z => ps_set hN rfl (by first | exact .inl rfl | exact .inr rfl) z))) (dss_one (ds_asg (tg_name 7) (w_add (dp_var (pv 7)).weak (dq_var (pv 8))) (fun _ z => ps_set hN rfl (by first | exact .inl rfl | exact .inr rfl) z))))))) (dss_one (ds_ret (DF.dp (w_sorted h.n_sorted (dp_var (pv 7)).weak))))))
theorem fo__law_on_ways {P : Program} {w : World} {K : Fg} {mg : Str → Option Value} {base : Heap} (h : Fx K mg) : ∃ fd, FnOk P w K mg base (L2.CX P w) 1 (Ad.at K (.glo "_law_on_ways")) fd ["_law_tags_here", "_law_links_here", "_law_found", "_law_i", "_law_j"] (spD K 5 (F__law_on_ways)) ∧ FunD K "_law_on_ways" "_law_on_ways" (defArgs s__law_on_ways) (defBody s__law_on_ways) (defScope s__law_on_ways) (([] : List Dv).map (Dv.v K)) [] (Ad.at K (.glo "_law_on_ways")) fd :=
  let ⟨fd, F⟩ := h.d__law_on_ways
  ⟨fd, fp__law_on_ways h F, F⟩
theorem ok__law_on_ways {P : Program} {w : World} {K : Fg} {mg : Str → Option Value} {base : Heap} (h : Fx K mg) : FnD P w K mg base 1 "_law_on_ways" ["_law_tags_here", "_law_links_here", "_law_found", "_law_i", "_law_j"] (F__law_on_ways) :=
  let ⟨fd, a, F⟩ := fo__law_on_ways h
  ⟨_, fd, a, h.g__law_on_ways, F.kp, F.bindsN fun _ _ _ _ _ _ us hl => match us, hl with | [_, _, _, _, _], _ => rfl⟩
/-! check_web -/
theorem fp_check_web {P : Program} {w : World} {K : Fg} {mg : Str → Option Value} {base : Heap} {fd : FuncData} (h : Fx K mg) (F : FunD K "check_web" "check_web" (defArgs s_check_web) (defBody s_check_web) (defScope s_check_web) (([] : List Dv).map (Dv.v K)) [] (Ad.at K (.glo "check_web")) fd) : FnOk P w K mg base (L2.CX P w) 1 (Ad.at K (.glo "check_web")) fd ["value"] (spD K 1 (F_check_web K)) := by
  refine FnD.fnok (k := 0) F sc_check_web (by decide) fun cdv A outer s H E hr => ?_
  have hN := sc_check_web.nd
  have tk := takes_of (X := cxOf (L2.CX P w) P w K mg base N_check_web "check_web" (defScope s_check_web) (Ad.at K (.glo "check_web")) cdv A outer s H E) rfl rfl rfl rfl
  exact (dss_one (ds_if (dt_not (dt_val (w_isC h.n_isinstance h.clss h.g_Web (dp_var (pv 0))))) (dss_one ds_never) dss_nil))
theorem fo_check_web {P : Program} {w : World} {K : Fg} {mg : Str → Option Value} {base : Heap} (h : Fx K mg) : ∃ fd, FnOk P w K mg base (L2.CX P w) 1 (Ad.at K (.glo "check_web")) fd ["value"] (spD K 1 (F_check_web K)) ∧ FunD K "check_web" "check_web" (defArgs s_check_web) (defBody s_check_web) (defScope s_check_web) (([] : List Dv).map (Dv.v K)) [] (Ad.at K (.glo "check_web")) fd :=
  let ⟨fd, F⟩ := h.d_check_web
  ⟨fd, fp_check_web h F, F⟩
theorem ok_check_web {P : Program} {w : World} {K : Fg} {mg : Str → Option Value} {base : Heap} (h : Fx K mg) : FnD P w K mg base 1 "check_web" ["value"] (F_check_web K) :=
  let ⟨fd, a, F⟩ := fo_check_web h
  ⟨_, fd, a, h.g_check_web, F.kp, F.bindsN fun _ _ _ _ _ _ us hl => match us, hl with | [_], _ => rfl⟩
/-! Web.towns -/
theorem fp_Web_towns {P : Program} {w : World} {K : Fg} {mg : Str → Option Value} {base : Heap} {fd : FuncData} (h : Fx K mg) (F : FunD K "towns" "Web.towns" (defArgs s_Web_towns) (defBody s_Web_towns) (defScope s_Web_towns) (([] : List Dv).map (Dv.v K)) [] (Ad.at K (.via "property" "Web" "towns")) fd) : FnOk P w K mg base (L2.CX P w) 1 (Ad.at K (.via "property" "Web" "towns")) fd ["self"] (spD K 1 (F_Web_towns K)) := by
  refine FnD.fnok (k := 0) F sc_Web_towns (by decide) fun cdv A outer s H E hr => ?_
  have hN := sc_Web_towns.nd
  have tk := takes_of (X := cxOf (L2.CX P w) P w K mg base N_Web_towns "Web.towns" (defScope s_Web_towns) (Ad.at K (.via "property" "Web" "towns")) cdv A outer s H E) rfl rfl rfl rfl
  exact (dss_one (ds_ret (dp_fldO h.c_Web.c h.a_Web_places (pv 0))))
theorem fo_Web_towns {P : Program} {w : World} {K : Fg} {mg : Str → Option Value} {base : Heap} (h : Fx K mg) : ∃ fd, FnOk P w K mg base (L2.CX P w) 1 (Ad.at K (.via "property" "Web" "towns")) fd ["self"] (spD K 1 (F_Web_towns K)) ∧ FunD K "towns" "Web.towns" (defArgs s_Web_towns) (defBody s_Web_towns) (defScope s_Web_towns) (([] : List Dv).map (Dv.v K)) [] (Ad.at K (.via "property" "Web" "towns")) fd :=
  let ⟨fd, F⟩ := h.d_Web_towns
  ⟨fd, fp_Web_towns h F, F⟩
theorem pr_Web_towns {P : Program} {w : World} {K : Fg} {mg : Str → Option Value} {base : Heap} (h : Fx K mg) : PropD P w K mg base 1 (ga K "Web") "towns" (F_Web_towns K) :=
  let ⟨fd, a, F⟩ := fo_Web_towns h
  ⟨_, _, fd, _, h.p_Web_towns, a, F.bindsN fun _ _ _ _ _ _ us hl => match us, hl with | [_], _ => rfl⟩
/-! place_of -/
theorem fp_place_of {P : Program} {w : World} {K : Fg} {mg : Str → Option Value} {base : Heap} {fd : FuncData} (h : Fx K mg) (F : FunD K "place_of" "place_of" (defArgs s_place_of) (defBody s_place_of) (defScope s_place_of) (([] : List Dv).map (Dv.v K)) [] (Ad.at K (.glo "place_of")) fd) : FnOk P w K mg base (L2.CX P w) 3 (Ad.at K (.glo "place_of")) fd ["web", "name"] (spD K 2 (F_place_of K)) := by
  refine FnD.fnok (k := 2) F sc_place_of (by decide) fun cdv A outer s H E hr => ?_
  have hN := sc_place_of.nd
  have tk := takes_of (X := cxOf (L2.CX P w) P w K mg base N_place_of "place_of" (defScope s_place_of) (Ad.at K (.glo "place_of")) cdv A outer s H E) rfl rfl rfl rfl
  exact (dss_cons (ds_if (t_nin hr (dp_var (pv 1)) (dp_prop h.c_Web.c ((pr_Web_towns h).mono (by decide)) hr (dp_var (pv 0)))) (dss_one ds_never) dss_nil) (dss_one (ds_ret (w_index hr (dp_prop h.c_Web.c ((pr_Web_towns h).mono (by decide)) hr (dp_var (pv 0))).weak (dp_var (pv 1))))))
theorem fo_place_of {P : Program} {w : World} {K : Fg} {mg : Str → Option Value} {base : Heap} (h : Fx K mg) : ∃ fd, FnOk P w K mg base (L2.CX P w) 3 (Ad.at K (.glo "place_of")) fd ["web", "name"] (spD K 2 (F_place_of K)) ∧ FunD K "place_of" "place_of" (defArgs s_place_of) (defBody s_place_of) (defScope s_place_of) (([] : List Dv).map (Dv.v K)) [] (Ad.at K (.glo "place_of")) fd :=
  let ⟨fd, F⟩ := h.d_place_of
  ⟨fd, fp_place_of h F, F⟩
theorem ok_place_of {P : Program} {w : World} {K : Fg} {mg : Str → Option Value} {base : Heap} (h : Fx K mg) : FnD P w K mg base 3 "place_of" ["web", "name"] (F_place_of K) :=
  let ⟨fd, a, F⟩ := fo_place_of h
  ⟨_, fd, a, h.g_place_of, F.kp, F.bindsN fun _ _ _ _ _ _ us hl => match us, hl with | [_, _], _ => rfl⟩
/-! two_places -/
theorem fp_two_places {P : Program} {w : World} {K : Fg} {mg : Str → Option Value} {base : Heap} {fd : FuncData} (h : Fx K mg) (F : FunD K "two_places" "two_places" (defArgs s_two_places) (defBody s_two_places) (defScope s_two_places) (([] : List Dv).map (Dv.v K)) [] (Ad.at K (.glo "two_places")) fd) : FnOk P w K mg base (L2.CX P w) 4 (Ad.at K (.glo "two_places")) fd ["web", "one", "two"] (spD K 3 (F_two_places K)) := by
  refine FnD.fnok (k := 3) F sc_two_places (by decide) fun cdv A outer s H E hr => ?_
  have hN := sc_two_places.nd
  have tk := takes_of (X := cxOf (L2.CX P w) P w K mg base N_two_places "two_places" (defScope s_two_places) (Ad.at K (.glo "two_places")) cdv A outer s H E) rfl rfl rfl rfl
  exact (dss_cons (ds_expr (dp_call (FnD.cal ((ok_check_web h).mono (by decide)) hr (by rfl) tk) (da_cons (dp_var (pv 0)) da_nil) (len_aCons len_aNil))) (dss_one (ds_ret (dp_tup (da_cons (dp_call (FnD.cal ((ok_place_of h).mono (by decide)) hr (by rfl) tk) (da_cons (dp_var (pv 0)) (da_cons (dp_var (pv 1)) da_nil)) (len_aCons (len_aCons len_aNil))) (da_cons (dp_call (FnD.cal ((ok_place_of h).mono (by decide)) hr (by rfl) tk) (da_cons (dp_var (pv 0)) (da_cons (dp_var (pv 2)) da_nil)) (len_aCons (len_aCons len_aNil))) da_nil))))))
theorem fo_two_places {P : Program} {w : World} {K : Fg} {mg : Str → Option Value} {base : Heap} (h : Fx K mg) : ∃ fd, FnOk P w K mg base (L2.CX P w) 4 (Ad.at K (.glo "two_places")) fd ["web", "one", "two"] (spD K 3 (F_two_places K)) ∧ FunD K "two_places" "two_places" (defArgs s_two_places) (defBody s_two_places) (defScope s_two_places) (([] : List Dv).map (Dv.v K)) [] (Ad.at K (.glo "two_places")) fd :=
  let ⟨fd, F⟩ := h.d_two_places
  ⟨fd, fp_two_places h F, F⟩
theorem ok_two_places {P : Program} {w : World} {K : Fg} {mg : Str → Option Value} {base : Heap} (h : Fx K mg) : FnD P w K mg base 4 "two_places" ["web", "one", "two"] (F_two_places K) :=
  let ⟨fd, a, F⟩ := fo_two_places h
  ⟨_, fd, a, h.g_two_places, F.kp, F.bindsN fun _ _ _ _ _ _ us hl => match us, hl with | [_, _, _], _ => rfl⟩
/-! named -/
theorem fp_named {P : Program} {w : World} {K : Fg} {mg : Str → Option Value} {base : Heap} {fd : FuncData} (h : Fx K mg) (F : FunD K "named" "named" (defArgs s_named) (defBody s_named) (defScope s_named) (([] : List Dv).map (Dv.v K)) [] (Ad.at K (.glo "named")) fd) : FnOk P w K mg base (L2.CX P w) 3 (Ad.at K (.glo "named")) fd ["web", "row"] (spD K 2 (F_named K)) := by
  refine FnD.fnok (k := 2) F sc_named (by decide) fun cdv A outer s H E hr => ?_
  have hN := sc_named.nd
  have tk := takes_of (X := cxOf (L2.CX P w) P w K mg base N_named "named" (defScope s_named) (Ad.at K (.glo "named")) cdv A outer s H E) rfl rfl rfl rfl
  exact (dss_one (ds_ret (w_tuple h.n_tuple (DF.dp (df_lc (own := [("at", 2)]) rfl hN (di_seq (DF.dp (w_sorted h.n_sorted (dp_var (pv 1)).weak))) (blk_ok rfl (by kernel_rfl) (by kernel_rfl) (by kernel_rfl) (by kernel_rfl)) (fun _ _ _ _ _ => (pg_name hN rfl (by first | exact .inl rfl | exact .inr rfl))) (tg_name 2) (by decide) (fun _ _ _ _ _ => dts_nil) (fun _ _ _ _ _ => (w_ix (dp_prop h.c_Web.c ((pr_Web_towns h).mono (by decide)) hr (dp_var (pv 0))).weak (dp_var (pv 2)).weak)))).weak)))
theorem fo_named {P : Program} {w : World} {K : Fg} {mg : Str → Option Value} {base : Heap} (h : Fx K mg) : ∃ fd, FnOk P w K mg base (L2.CX P w) 3 (Ad.at K (.glo "named")) fd ["web", "row"] (spD K 2 (F_named K)) ∧ FunD K "named" "named" (defArgs s_named) (defBody s_named) (defScope s_named) (([] : List Dv).map (Dv.v K)) [] (Ad.at K (.glo "named")) fd :=
  let ⟨fd, F⟩ := h.d_named
  ⟨fd, fp_named h F, F⟩
theorem ok_named {P : Program} {w : World} {K : Fg} {mg : Str → Option Value} {base : Heap} (h : Fx K mg) : FnD P w K mg base 3 "named" ["web", "row"] (F_named K) :=
  let ⟨fd, a, F⟩ := fo_named h
  ⟨_, fd, a, h.g_named, F.kp, F.bindsN fun _ _ _ _ _ _ us hl => match us, hl with | [_, _], _ => rfl⟩
/-! all_between -/
theorem fp_all_between {P : Program} {w : World} {K : Fg} {mg : Str → Option Value} {base : Heap} {fd : FuncData} (h : Fx K mg) (F : FunD K "all_between" "all_between" (defArgs s_all_between) (defBody s_all_between) (defScope s_all_between) (([] : List Dv).map (Dv.v K)) [] (Ad.at K (.glo "all_between")) fd) : FnOk P w K mg base (L2.CX P w) 1 (Ad.at K (.glo "all_between")) fd ["far", "one", "two"] (spD K 3 (F_all_between)) := by
  refine FnD.fnok (k := 0) F sc_all_between (by decide) fun cdv A outer s H E hr => ?_
  have hN := sc_all_between.nd
  have tk := takes_of (X := cxOf (L2.CX P w) P w K mg base N_all_between "all_between" (defScope s_all_between) (Ad.at K (.glo "all_between")) cdv A outer s H E) rfl rfl rfl rfl
  exact (dss_one (ds_ret (DF.dp (df_lc (own := [("at", 3)]) rfl hN (w_range1 h.n_range (w_len h.n_len (dp_var (pv 0)))) (blk_ok rfl (by kernel_rfl) (by kernel_rfl) (by kernel_rfl) (by kernel_rfl)) (fun _ _ _ _ _ => (pg_name hN rfl (by first | exact .inl rfl | exact .inr rfl))) (tg_name 3) (by decide) (fun _ _ _ _ _ => (dts_one (t_eq hr (w_add (w_ix (w_ix (dp_var (pv 0)).weak (dp_var (pv 1)).weak).weak (dp_var (pv 3)).weak).weak (w_ix (w_ix (dp_var (pv 0)).weak (dp_var (pv 3)).weak).weak (dp_var (pv 2)).weak).weak) (w_ix (w_ix (dp_var (pv 0)).weak (dp_var (pv 1)).weak).weak (dp_var (pv 2)).weak)))) (fun _ _ _ _ _ => (dp_var (pv 3)))))))
theorem fo_all_between {P : Program} {w : World} {K : Fg} {mg : Str → Option Value} {base : Heap} (h : Fx K mg) : ∃ fd, FnOk P w K mg base (L2.CX P w) 1 (Ad.at K (.glo "all_between")) fd ["far", "one", "two"] (spD K 3 (F_all_between)) ∧ FunD K "all_between" "all_between" (defArgs s_all_between) (defBody s_all_between) (defScope s_all_between) (([] : List Dv).map (Dv.v K)) [] (Ad.at K (.glo "all_between")) fd :=
  let ⟨fd, F⟩ := h.d_all_between
  ⟨fd, fp_all_between h F, F⟩
theorem ok_all_between {P : Program} {w : World} {K : Fg} {mg : Str → Option Value} {base : Heap} (h : Fx K mg) : FnD P w K mg base 1 "all_between" ["far", "one", "two"] (F_all_between) :=
  let ⟨fd, a, F⟩ := fo_all_between h
  ⟨_, fd, a, h.g_all_between, F.kp, F.bindsN fun _ _ _ _ _ _ us hl => match us, hl with | [_, _, _], _ => rfl⟩
/-! Web.far -/
theorem fp_Web_far {P : Program} {w : World} {K : Fg} {mg : Str → Option Value} {base : Heap} {fd : FuncData} (h : Fx K mg) (F : FunD K "far" "Web.far" (defArgs s_Web_far) (defBody s_Web_far) (defScope s_Web_far) (([] : List Dv).map (Dv.v K)) [] (Ad.at K (.via "property" "Web" "far")) fd) : FnOk P w K mg base (L2.CX P w) 1 (Ad.at K (.via "property" "Web" "far")) fd ["self"] (spD K 1 (F_Web_far K)) := by
  refine FnD.fnok (k := 0) F sc_Web_far (by decide) fun cdv A outer s H E hr => ?_
  have hN := sc_Web_far.nd
  have tk := takes_of (X := cxOf (L2.CX P w) P w K mg base N_Web_far "Web.far" (defScope s_Web_far) (Ad.at K (.via "property" "Web" "far")) cdv A outer s H E) rfl rfl rfl rfl
  exact (dss_one (ds_ret (w_tuple h.n_tuple (DF.dp (df_lc (own := [("row", 1)]) rfl hN (di_seq (dp_fldO h.c_Web.c h.a_Web_ways (pv 0))) (blk_ok rfl (by kernel_rfl) (by kernel_rfl) (by kernel_rfl) (by kernel_rfl)) (fun _ _ _ _ _ => (pg_name hN rfl (by first | exact .inl rfl | exact .inr rfl))) (tg_name 1) (by decide) (fun _ _ _ _ _ => dts_nil) (fun _ _ _ _ _ => (w_tuple h.n_tuple (dp_var (pv 1)).weak)))).weak)))
theorem fo_Web_far {P : Program} {w : World} {K : Fg} {mg : Str → Option Value} {base : Heap} (h : Fx K mg) : ∃ fd, FnOk P w K mg base (L2.CX P w) 1 (Ad.at K (.via "property" "Web" "far")) fd ["self"] (spD K 1 (F_Web_far K)) ∧ FunD K "far" "Web.far" (defArgs s_Web_far) (defBody s_Web_far) (defScope s_Web_far) (([] : List Dv).map (Dv.v K)) [] (Ad.at K (.via "property" "Web" "far")) fd :=
  let ⟨fd, F⟩ := h.d_Web_far
  ⟨fd, fp_Web_far h F, F⟩
theorem pr_Web_far {P : Program} {w : World} {K : Fg} {mg : Str → Option Value} {base : Heap} (h : Fx K mg) : PropD P w K mg base 1 (ga K "Web") "far" (F_Web_far K) :=
  let ⟨fd, a, F⟩ := fo_Web_far h
  ⟨_, _, fd, _, h.p_Web_far, a, F.bindsN fun _ _ _ _ _ _ us hl => match us, hl with | [_], _ => rfl⟩
/-! between -/
theorem fp_between {P : Program} {w : World} {K : Fg} {mg : Str → Option Value} {base : Heap} {fd : FuncData} (h : Fx K mg) (F : FunD K "between" "between" (defArgs s_between) (defBody s_between) (defScope s_between) (([] : List Dv).map (Dv.v K)) [] (Ad.at K (.glo "between")) fd) : FnOk P w K mg base (L2.CX P w) 5 (Ad.at K (.glo "between")) fd ["web", "one", "two"] (spD K 3 (F_between K)) := by
  refine FnD.fnok (k := 4) F sc_between (by decide) fun cdv A outer s H E hr => ?_
  have hN := sc_between.nd
  have tk := takes_of (X := cxOf (L2.CX P w) P w K mg base N_between "between" (defScope s_between) (Ad.at K (.glo "between")) cdv A outer s H E) rfl rfl rfl rfl
  exact (dss_cons (ds_asg (TgOk.r (tg_tup (tgs_cons (tg_name 3) (tgs_cons (tg_name 4) tgs_nil)) (len_cons (len_cons len_nil)))) (dp_call (FnD.cal ((ok_two_places h).mono (by decide)) hr (by rfl) tk) (da_cons (dp_var (pv 0)) (da_cons (dp_var (pv 1)) (da_cons (dp_var (pv 2)) da_nil))) (len_aCons (len_aCons (len_aCons len_aNil)))) (fun _ z => ps_asg z (pg_tup rfl (pgs_cons (pg_name hN rfl (by first | exact .inl rfl | exact .inr rfl)) (pgs_cons (pg_name hN rfl (by first | exact .inl rfl | exact .inr rfl)) pgs_nil))))) (dss_one (ds_ret (dp_call (FnD.cal ((ok_named h).mono (by decide)) hr (by rfl) tk) (da_cons (dp_var (pv 0)) (da_cons (dp_call (FnD.cal ((ok_all_between h).mono (by decide)) hr (by rfl) tk) (da_cons (dp_prop h.c_Web.c ((pr_Web_far h).mono (by decide)) hr (dp_var (pv 0))) (da_cons (dp_var (pv 3)) (da_cons (dp_var (pv 4)) da_nil))) (len_aCons (len_aCons (len_aCons len_aNil)))) da_nil)) (len_aCons (len_aCons len_aNil))))))
theorem fo_between {P : Program} {w : World} {K : Fg} {mg : Str → Option Value} {base : Heap} (h : Fx K mg) : ∃ fd, FnOk P w K mg base (L2.CX P w) 5 (Ad.at K (.glo "between")) fd ["web", "one", "two"] (spD K 3 (F_between K)) ∧ FunD K "between" "between" (defArgs s_between) (defBody s_between) (defScope s_between) (([] : List Dv).map (Dv.v K)) [] (Ad.at K (.glo "between")) fd :=
  let ⟨fd, F⟩ := h.d_between
  ⟨fd, fp_between h F, F⟩
theorem ok_between {P : Program} {w : World} {K : Fg} {mg : Str → Option Value} {base : Heap} (h : Fx K mg) : FnD P w K mg base 5 "between" ["web", "one", "two"] (F_between K) :=
  let ⟨fd, a, F⟩ := fo_between h
  ⟨_, fd, a, h.g_between, F.kp, F.bindsN fun _ _ _ _ _ _ us hl => match us, hl with | [_, _, _], _ => rfl⟩
theorem kw_between_0_two_one_web {X : Cx} {W : WX} {k : Nat} (h : Fx X.K X.mg) (hr : Room k X.A) (hg : Gl X "between") (tk : Takes X W) (hk : 5 ≤ k := by decide) : CalA X W "between" 0 ["two", "one", "web"] [] (fun all H Q E => spD X.K 3 (F_between X.K) (pick [2, 1, 0] all) H Q E) := by
  obtain ⟨fd, a, F⟩ := fo_between (P := X.prog) (w := X.w) (base := X.base) h
  have b : KwB X.K fd ["web", "one", "two"] 0 0 ["two", "one", "web"] [] [2, 1, 0] := kwb0 F fun kV doc pm an cdv ct first us ws h0 h1 h2 => match first, us, ws, h0, h1, h2 with | [], [], [_, _, _], _, _, _ => rfl
  exact ⟨⟨_, [], h.g_between, F.kp, fun G => .nil, (runs_ok (a.mono hk) hr b tk)⟩, hg, by decide⟩
/-! _law_right -/
theorem fp__law_right {P : Program} {w : World} {K : Fg} {mg : Str → Option Value} {base : Heap} {fd : FuncData} (h : Fx K mg) (F : FunD K "_law_right" "_law_right" (defArgs s__law_right) (defBody s__law_right) (defScope s__law_right) (([] : List Dv).map (Dv.v K)) [] (Ad.at K (.glo "_law_right")) fd) : FnOg P w K mg base 6 (Ad.at K (.glo "_law_right")) fd ["_law_phial"] (spD K 1 (F__law_right__v2 K)) := by
  refine FnG.fnok (k := 5) F sc__law_right fun cdv A outer s H E hgd hr => ?_
  have hN := sc__law_right.nd
  have tk := takes_of (X := cxOf (L2.CX P w) P w K mg base N__law_right "_law_right" (defScope s__law_right) (Ad.at K (.glo "_law_right")) cdv A outer s H E) rfl rfl rfl rfl
  exact (dss_cons (ds_for (passes_of rfl) rfl (w_range1 h.n_range dp_int) (pg_name hN rfl (by first | exact .inl rfl | exact .inr rfl)) (tg_name 1) (dss_cons (ds_asgE (tg_name 2) (de_callO (FnD.cal ((ok__law_tags h).mono (by decide)) hr (by rfl) tk) (pv 0) (db_cons (DP.de dp_int) (db_cons (DP.de dp_int) db_nil)) (len_bCons (len_bCons len_bNil))) (fun _ z => ps_set hN rfl (by first | exact .inl rfl | exact .inr rfl) z)) (dss_cons (ds_asgE (tg_name 3) (de_callO (FnD.cal ((ok__law_links h).mono (by decide)) hr (by rfl) tk) (pv 0) (db_cons (DP.de (dp_var (pv 2))) (db_cons (DP.de dp_int) db_nil)) (len_bCons (len_bCons len_bNil))) (fun _ z => ps_set hN rfl (by first | exact .inl rfl | exact .inr rfl) z)) (dss_cons (ds_if (t_eq hr (dp_var (pv 1)) dp_int) (dss_one (ds_asgE (TgOk.r (tg_tup (tgs_cons (tg_name 9) (tgs_cons (tg_name 2) (tgs_cons (tg_name 3) tgs_nil))) (len_cons (len_cons (len_cons len_nil))))) (de_callO (FnD.cal ((ok__law_known h).mono (by decide)) hr (by rfl) tk) (pv 0) db_nil len_bNil) (fun _ z => ps_asg z (pg_tup rfl (pgs_cons (pg_name hN rfl (by first | exact .inl rfl | exact .inr rfl)) (pgs_cons (pg_name hN rfl (by first | exact .inl rfl | exact .inr rfl)) (pgs_cons (pg_name hN rfl (by first | exact .inl rfl | exact .inr rfl)) pgs_nil))))))) dss_nil) (dss_cons (ds_par2 (dv_val (DP.de (DG.dp (dg_make (kw_Web___init___2 h hr (by rfl) tk) (dg_pos (da_cons (dp_var (pv 2)) (da_cons (dp_var (pv 3)) da_nil)))))) (dv_val (DP.de (dp_call (FnD.cal ((ok__law_spans h).mono (by decide)) hr (by rfl) tk) (da_cons (dp_var (pv 2)) (da_cons (dp_var (pv 3)) da_nil)) (len_aCons (len_aCons len_aNil)))) dv_nil)) fun _ z => ps_par rfl hN rfl rfl (by decide) rfl rfl z (by rfl)) (dss_one (ds_for (passes_of rfl) rfl (w_range1 h.n_range dp_int) (pg_name hN rfl (by first | exact .inl rfl | exact .inr rfl)) (tg_name 4) (dss_cons (ds_par2 (dv_val (de_callO (FnD.cal ((ok__law_drop h).mono (by decide)) hr (by rfl) tk) (pv 0) (db_cons (DP.de (w_len h.n_len (dp_var (pv 2)))) db_nil) (len_bCons len_bNil)) (dv_val (de_callO (FnD.cal ((ok__law_drop h).mono (by decide)) hr (by rfl) tk) (pv 0) (db_cons (DP.de (w_len h.n_len (dp_var (pv 2)))) db_nil) (len_bCons len_bNil)) dv_nil)) fun _ z => ps_par rfl hN rfl rfl (by decide) rfl rfl z (by rfl)) (dss_cons (ds_asg (tg_name 7) (w_tuple h.n_tuple (DF.dp (df_lc (own := [("_law_k", 12)]) rfl hN (di_seq (dp_call (FnD.cal ((ok__law_on_ways h).mono (by decide)) hr (by rfl) tk) (da_cons (dp_var (pv 2)) (da_cons (dp_var (pv 3)) (da_cons (dp_var (pv 6)) (da_cons (dp_var (pv 10)) (da_cons (dp_var (pv 11)) da_nil))))) (len_aCons (len_aCons (len_aCons (len_aCons (len_aCons len_aNil))))))) (blk_ok rfl (by kernel_rfl) (by kernel_rfl) (by kernel_rfl) (by kernel_rfl)) (fun _ _ _ _ _ => (pg_name hN rfl (by first | exact .inl rfl | exact .inr rfl))) (tg_name 12) (by decide) (fun _ _ _ _ _ => dts_nil) (fun _ _ _ _ _ => (w_ix (dp_var (pv 2)).weak (dp_var (pv 12)).weak)))).weak) (fun _ z => ps_set hN rfl (by first | exact .inl rfl | exact .inr rfl) z)) (dss_cons (ds_asg (tg_name 8) (DF.dp (df_lst (da_cons (dp_call (FnD.cal ((ok_between h).mono (by decide)) hr (by rfl) tk) (da_cons (dp_var (pv 5)) (da_cons (w_ix (dp_var (pv 2)).weak (dp_var (pv 10)).weak) (da_cons (w_ix (dp_var (pv 2)).weak (dp_var (pv 11)).weak) da_nil))) (len_aCons (len_aCons (len_aCons len_aNil)))) (da_cons (dp_callA (kw_between_0_two_one_web h hr (by rfl) tk) (dg_kw0 (dk_cons (w_ix (dp_var (pv 2)).weak (dp_var (pv 11)).weak) (dk_cons (w_ix (dp_var (pv 2)).weak (dp_var (pv 10)).weak) (dk_cons (dp_var (pv 5)) dk_nil))))) da_nil)))) (fun _ z => ps_set hN rfl (by first | exact .inl rfl | exact .inr rfl) z)) (dss_cons (ds_if (t_ne hr (w_repr hgd hr h.n_repr (w_add (dp_var (pv 8)).weak (DF.dp (df_lst (da_cons (dp_call (FnD.cal ((ok_between h).mono (by decide)) hr (by rfl) tk) (da_cons (dp_var (pv 5)) (da_cons (w_ix (dp_var (pv 2)).weak (dp_var (pv 11)).weak) (da_cons (w_ix (dp_var (pv 2)).weak (dp_var (pv 10)).weak) da_nil))) (len_aCons (len_aCons (len_aCons len_aNil)))) da_nil))).weak)) (w_repr hgd hr h.n_repr (w_mul (DF.dp (df_lst (da_cons (dp_var (pv 7)) da_nil))).weak dp_int.weak))) (dss_one (ds_ret dp_bl)) dss_nil) (dss_one (ds_if (DW.dt (dw_or (t_ne hr (dp_call (FnD.cal ((ok_between h).mono (by decide)) hr (by rfl) tk) (da_cons (dp_var (pv 5)) (da_cons (w_ix (dp_var (pv 2)).weak (dp_var (pv 10)).weak) (da_cons (w_ix (dp_var (pv 2)).weak (dp_var (pv 10)).weak) da_nil))) (len_aCons (len_aCons (len_aCons len_aNil)))) (dp_tup (da_cons (w_ix (dp_var (pv 2)).weak (dp_var (pv 10)).weak) da_nil))) (dw_or (t_nin hr (w_ix (dp_var (pv 2)).weak (dp_var (pv 10)).weak) (dp_var (pv 7))) (dw_or1 (t_nin hr (w_ix (dp_var (pv 2)).weak (dp_var (pv 11)).weak) (dp_var (pv 7))))))) (dss_one (ds_ret dp_bl)) dss_nil))))))))))))) (dss_one (ds_ret dp_bl)))
theorem fo__law_right {P : Program} {w : World} {K : Fg} {mg : Str → Option Value} {base : Heap} (h : Fx K mg) : ∃ fd, FnOg P w K mg base 6 (Ad.at K (.glo "_law_right")) fd ["_law_phial"] (spD K 1 (F__law_right__v2 K)) ∧ FunD K "_law_right" "_law_right" (defArgs s__law_right) (defBody s__law_right) (defScope s__law_right) (([] : List Dv).map (Dv.v K)) [] (Ad.at K (.glo "_law_right")) fd :=
  let ⟨fd, F⟩ := h.d__law_right
  ⟨fd, fp__law_right h F, F⟩
theorem ok__law_right {P : Program} {w : World} {K : Fg} {mg : Str → Option Value} {base : Heap} (h : Fx K mg) : FnG P w K mg base 6 "_law_right" ["_law_phial"] (F__law_right__v2 K) :=
  let ⟨fd, a, F⟩ := fo__law_right h
  ⟨_, fd, a, h.g__law_right, F.kp, F.bindsN fun _ _ _ _ _ _ us hl => match us, hl with | [_], _ => rfl⟩
/-! _law_phial_of -/
theorem fp__law_phial_of {P : Program} {w : World} {K : Fg} {mg : Str → Option Value} {base : Heap} {fd : FuncData} (h : Fx K mg) (F : FunD K "_law_phial_of" "_law_phial_of" (defArgs s__law_phial_of) (defBody s__law_phial_of) (defScope s__law_phial_of) (([] : List Dv).map (Dv.v K)) [] (Ad.at K (.glo "_law_phial_of")) fd) : FnOk P w K mg base (L2.CX P w) 1 (Ad.at K (.glo "_law_phial_of")) fd ["_law_script", "_law_turn"] (spD K 2 (F__law_phial_of)) := by
  refine FnD.fnok (k := 0) F sc__law_phial_of (by decide) fun cdv A outer s H E hr => ?_
  have hN := sc__law_phial_of.nd
  have tk := takes_of (X := cxOf (L2.CX P w) P w K mg base N__law_phial_of "_law_phial_of" (defScope s__law_phial_of) (Ad.at K (.glo "_law_phial_of")) cdv A outer s H E) rfl rfl rfl rfl
  exact (dss_cons (ds_par2 (dv_val (DP.de (dp_if (t_lt (dp_var (pv 1)).weak (w_len h.n_len (dp_var (pv 0))).weak) (w_ix (dp_var (pv 0)).weak (dp_var (pv 1)).weak) dp_int)) (dv_val (DP.de (w_add dp_int.weak (w_mul dp_int.weak (dp_var (pv 1)).weak).weak)) dv_nil)) fun _ z => ps_par rfl hN rfl rfl (by decide) rfl rfl z (by rfl)) (dss_cons (ds_for (passes_of rfl) rfl (w_enum h.n_enumerate (dp_slice (dp_var (pv 0)).weak do_none (do_some dp_int))) (pg_tup rfl (pgs_cons (pg_name hN rfl (by first | exact .inl rfl | exact .inr rfl)) (pgs_cons (pg_name hN rfl (by first | exact .inl rfl | exact .inr rfl)) pgs_nil))) (tg_tup (tgs_cons (tg_name 4) (tgs_cons (tg_name 5) tgs_nil)) (len_cons (len_cons len_nil))) (dss_one (ds_asg (tg_name 3) (w_mod (w_int h.n_int (w_add (w_mul (dp_var (pv 3)).weak (w_add dp_int.weak (w_mul dp_int.weak (dp_var (pv 4)).weak).weak).weak).weak (w_mul dp_int.weak (dp_var (pv 5)).weak).weak).weak).weak dp_int.weak) (fun _ z => ps_set hN rfl (by first | exact .inl rfl | exact .inr rfl) z)))) (dss_one (ds_retF (df_lst (da_cons (dp_if (DW.dt (dw_or (t_lt (dp_var (pv 2)).weak dp_int.weak) (dw_or1 (t_ge (dp_var (pv 2)).weak (w_pow dp_int.weak dp_int.weak).weak)))) (w_abs h.n_abs (dp_var (pv 2)).weak) dp_int) (da_cons (w_mod (w_int h.n_int (w_add (dp_var (pv 3)).weak (w_mul dp_int.weak (dp_var (pv 2)).weak).weak).weak).weak dp_int.weak) (da_cons dp_int da_nil))))))))
theorem fo__law_phial_of {P : Program} {w : World} {K : Fg} {mg : Str → Option Value} {base : Heap} (h : Fx K mg) : ∃ fd, FnOk P w K mg base (L2.CX P w) 1 (Ad.at K (.glo "_law_phial_of")) fd ["_law_script", "_law_turn"] (spD K 2 (F__law_phial_of)) ∧ FunD K "_law_phial_of" "_law_phial_of" (defArgs s__law_phial_of) (defBody s__law_phial_of) (defScope s__law_phial_of) (([] : List Dv).map (Dv.v K)) [] (Ad.at K (.glo "_law_phial_of")) fd :=
  let ⟨fd, F⟩ := h.d__law_phial_of
  ⟨fd, fp__law_phial_of h F, F⟩
theorem ok__law_phial_of {P : Program} {w : World} {K : Fg} {mg : Str → Option Value} {base : Heap} (h : Fx K mg) : FnD P w K mg base 1 "_law_phial_of" ["_law_script", "_law_turn"] (F__law_phial_of) :=
  let ⟨fd, a, F⟩ := fo__law_phial_of h
  ⟨_, fd, a, h.g__law_phial_of, F.kp, F.bindsN fun _ _ _ _ _ _ us hl => match us, hl with | [_, _], _ => rfl⟩
/-! law -/
theorem fp_law {P : Program} {w : World} {K : Fg} {mg : Str → Option Value} {base : Heap} {fd : FuncData} (h : Fx K mg) (F : FunD K "law" "law" (defArgs s_law) (defBody s_law) (defScope s_law) (([] : List Dv).map (Dv.v K)) [] (Ad.at K (.glo "law")) fd) : FnOg P w K mg base 7 (Ad.at K (.glo "law")) fd ["_law_script"] (spD K 1 (F_law__v2 K)) := by
  refine FnG.fnok (k := 6) F sc_law fun cdv A outer s H E hgd hr => ?_
  have hN := sc_law.nd
  have tk := takes_of (X := cxOf (L2.CX P w) P w K mg base N_law "law" (defScope s_law) (Ad.at K (.glo "law")) cdv A outer s H E) rfl rfl rfl rfl
  exact (dss_one (ds_ret (w_all rfl h.n_all (DF.dp (df_lc (own := [("_law_turn", 1)]) rfl hN (w_range1 h.n_range (w_max2 rfl h.n_max dp_int.weak (w_min2 rfl h.n_min (w_len h.n_len (dp_var (pv 0))).weak dp_int.weak).weak)) (blk_ok rfl (by kernel_rfl) (by kernel_rfl) (by kernel_rfl) (by kernel_rfl)) (fun _ _ _ _ _ => (pg_name hN rfl (by first | exact .inl rfl | exact .inr rfl))) (tg_name 1) (by decide) (fun _ _ _ _ _ => dts_nil) (fun _ _ _ _ _ => (dp_callF (FnG.cal ((ok__law_right h).mono (by decide)) hgd hr (by rfl) takes0) (DF.dg (df_call (FnD.cal ((ok__law_phial_of h).mono (by decide)) hr (by rfl) takes0) (da_cons (dp_var (pv 0)) (da_cons (dp_var (pv 1)) da_nil)) (len_aCons (len_aCons len_aNil)))))))).weak)))
theorem fo_law {P : Program} {w : World} {K : Fg} {mg : Str → Option Value} {base : Heap} (h : Fx K mg) : ∃ fd, FnOg P w K mg base 7 (Ad.at K (.glo "law")) fd ["_law_script"] (spD K 1 (F_law__v2 K)) ∧ FunD K "law" "law" (defArgs s_law) (defBody s_law) (defScope s_law) (([] : List Dv).map (Dv.v K)) [] (Ad.at K (.glo "law")) fd :=
  let ⟨fd, F⟩ := h.d_law
  ⟨fd, fp_law h F, F⟩
theorem ok_law {P : Program} {w : World} {K : Fg} {mg : Str → Option Value} {base : Heap} (h : Fx K mg) : FnG P w K mg base 7 "law" ["_law_script"] (F_law__v2 K) :=
  let ⟨fd, a, F⟩ := fo_law h
  ⟨_, fd, a, h.g_law, F.kp, F.bindsN fun _ _ _ _ _ _ us hl => match us, hl with | [_], _ => rfl⟩
def fa0 : List Fa := [.glo "_law_drop", .glo "_law_tags", .glo "_law_from", .glo "_law_links", .glo "_law_known", .glo "_law_spans", .glo "is_name", .glo "wrong_town", .glo "is_pair", .glo "is_tied", .glo "wrong_tie", .glo "distances_from", .glo "neighbours", .glo "first_apart", .glo "all_distances", .glo "_law_on_ways", .glo "check_web", .glo "place_of", .glo "two_places", .glo "named"]
def fa1 : List Fa := [.glo "all_between", .glo "between", .glo "_law_right", .glo "_law_phial_of", .glo "law", .free "len", .free "min", .free "max", .free "range", .free "all", .free "enumerate", .free "int", .free "abs", .free "tuple", .free "repr", .noat "Web" "ways", .free "sorted", .noat "Web" "places", .free "isinstance", .free "divmod"]
def fa2 : List Fa := [.noat "Web" "roads", .noat "Web" "pairs", .int "MOST_TIES" 60, .int "MOST_TOWNS" 14, .free "str", .int "LONGEST_NAME" 8, .str "LETTERS" "abcdefghijklmnopqrstuvwxyz", .str "DIGITS" "0123456789", .free "list", .glo "Web", .mkr "Web"]
def fa : List Fa := fa0 ++ fa1 ++ fa2
def fb0 : List Fb := [.clsi "Web", .tup0 (.adr (dflAt ("Web", some "__init__") 0)), .prop "Web" "towns", .prop "Web" "far", .kit "NoneType" "Web" false, .kit "bool" "Web" false, .kit "int" "Web" false, .kit "str" "Web" false, .kit "tuple" "Web" false, .kit "list" "Web" false, .kit "dict" "Web" false, .kitc "Web" "Web" true]
def fb : List Fb := fb0
def fn0 : List Df := [d__law_drop, d__law_tags, d__law_from, d__law_links, d__law_known, d__law_spans, d_is_name, d_wrong_town, d_is_pair, d_is_tied, d_wrong_tie, d_distances_from, d_neighbours, d_first_apart, d_all_distances, d_Web___init__, d__law_on_ways, d_check_web, d_Web_towns, d_place_of]
def fn1 : List Df := [d_two_places, d_named, d_all_between, d_Web_far, d_between, d__law_right, d__law_phial_of, d_law]
def fn : List Df := fn0 ++ fn1
theorem fx_of {K : Fg} {h : Heap} {mg : Str → Option Value} (X : K.In h) (G : h.Ns mainGlobals mg) (c : SaysY fa fb fn K) : Fx K mg := by
  constructor
  · exact glo_ok X G (c.fact 0)
  · exact glo_ok X G (c.fact 1)
  · exact glo_ok X G (c.fact 2)
  · exact glo_ok X G (c.fact 3)
  · exact glo_ok X G (c.fact 4)
  · exact glo_ok X G (c.fact 5)
  · exact glo_ok X G (c.fact 6)
  · exact glo_ok X G (c.fact 7)
  · exact glo_ok X G (c.fact 8)
  · exact glo_ok X G (c.fact 9)
  · exact glo_ok X G (c.fact 10)
  · exact glo_ok X G (c.fact 11)
  · exact glo_ok X G (c.fact 12)
  · exact glo_ok X G (c.fact 13)
  · exact glo_ok X G (c.fact 14)
  · exact glo_ok X G (c.fact 15)
  · exact glo_ok X G (c.fact 16)
  · exact glo_ok X G (c.fact 17)
  · exact glo_ok X G (c.fact 18)
  · exact glo_ok X G (c.fact 19)
  · exact glo_ok X G (c.fact 20)
  · exact glo_ok X G (c.fact 21)
  · exact glo_ok X G (c.fact 22)
  · exact glo_ok X G (c.fact 23)
  · exact glo_ok X G (c.fact 24)
  · exact free_ok X G (c.fact 25)
  · exact free_ok X G (c.fact 26)
  · exact free_ok X G (c.fact 27)
  · exact free_ok X G (c.fact 28)
  · exact free_ok X G (c.fact 29)
  · exact free_ok X G (c.fact 30)
  · exact free_ok X G (c.fact 31)
  · exact free_ok X G (c.fact 32)
  · exact free_ok X G (c.fact 33)
  · exact free_ok X G (c.fact 34)
  · exact noat_ok (c.fact 35)
  · exact free_ok X G (c.fact 36)
  · exact noat_ok (c.fact 37)
  · exact free_ok X G (c.fact 38)
  · exact free_ok X G (c.fact 39)
  · exact noat_ok (c.fact 40)
  · exact noat_ok (c.fact 41)
  · exact int_ok X G (c.fact 42)
  · exact int_ok X G (c.fact 43)
  · exact free_ok X G (c.fact 44)
  · exact int_ok X G (c.fact 45)
  · exact str_ok X G (c.fact 46)
  · exact str_ok X G (c.fact 47)
  · exact free_ok X G (c.fact 48)
  · exact glo_ok X G (c.fact 49)
  · exact clsi_ok (c.more 0)
  · exact mkr_ok (c.fact 50)
  · exact tup0_ok (c.more 1)
  · exact prop_ok (c.more 2)
  · exact prop_ok (c.more 3)
  · exact kit_ok (c.more 4)
  · exact kit_ok (c.more 5)
  · exact kit_ok (c.more 6)
  · exact kit_ok (c.more 7)
  · exact kit_ok (c.more 8)
  · exact kit_ok (c.more 9)
  · exact kit_ok (c.more 10)
  · exact kitc_ok (c.more 11)
  · exact c.def_ 0 (d := d__law_drop)
  · exact c.def_ 1 (d := d__law_tags)
  · exact c.def_ 2 (d := d__law_from)
  · exact c.def_ 3 (d := d__law_links)
  · exact c.def_ 4 (d := d__law_known)
  · exact c.def_ 5 (d := d__law_spans)
  · exact c.def_ 6 (d := d_is_name)
  · exact c.def_ 7 (d := d_wrong_town)
  · exact c.def_ 8 (d := d_is_pair)
  · exact c.def_ 9 (d := d_is_tied)
  · exact c.def_ 10 (d := d_wrong_tie)
  · exact c.def_ 11 (d := d_distances_from)
  · exact c.def_ 12 (d := d_neighbours)
  · exact c.def_ 13 (d := d_first_apart)
  · exact c.def_ 14 (d := d_all_distances)
  · exact c.def_ 15 (d := d_Web___init__)
  · exact c.def_ 16 (d := d__law_on_ways)
  · exact c.def_ 17 (d := d_check_web)
  · exact c.def_ 18 (d := d_Web_towns)
  · exact c.def_ 19 (d := d_place_of)
  · exact c.def_ 20 (d := d_two_places)
  · exact c.def_ 21 (d := d_named)
  · exact c.def_ 22 (d := d_all_between)
  · exact c.def_ 23 (d := d_Web_far)
  · exact c.def_ 24 (d := d_between)
  · exact c.def_ 25 (d := d__law_right)
  · exact c.def_ 26 (d := d__law_phial_of)
  · exact c.def_ 27 (d := d_law)
end Lk10

set_option Elab.async false
set_option linter.all false
set_option maxRecDepth 100000
set_option maxHeartbeats 0
namespace Lk10
open PySem PySem.Spec PyProof.Rows L2 He DL
abbrev Rr : PySem.W.OpenRow := PySem.W.OpenLaw.row PySem.Challenge.rw_bitplaces_k10_whole_towns_between
abbrev hk : PySem.W.Hook := hookY 6 fa fb fn
def ob (s : PySem.W.SharedT) : AlY := obsYG 6 fa fb fn (HandSHeadRun.getT s)
theorem ob_eq (s : PySem.W.SharedT) : ob s = hk.obs s.abs := obsYG_eq (HandSHeadRun.getT_eq s)
def loose0 : List PySem.Str := ["_wall", "WrongValue", "InvalidText", "NotAWeb", "InvalidTowns", "InvalidTies", "WrongName", "UnknownName", "NoAnswer", "Apart", "MOST_TOWNS", "MOST_TIES", "LETTERS", "DIGITS", "LONGEST_NAME", "is_name", "wrong_town", "is_pair", "is_tied", "wrong_tie", "neighbours", "distances_from", "all_distances", "first_apart", "lines_of"]
def loose1 : List PySem.Str := ["read_web", "Web", "check_web", "place_of", "two_places", "all_between", "named", "between", "_law_phial_of", "_law_drop", "_law_from", "_law_tags", "_law_links", "_law_spans", "_law_known", "_law_on_ways", "_law_right"]
def loose : List PySem.Str := loose0 ++ loose1
theorem run (w : World) : HandSHeadRun.RunEq Rr (PySem.W.view Rr.prog [46]) hk ob 40000 loose w := by
  intro os
  kernel_rfl
end Lk10
open PySem PySem.W PySem.Calls PyProof.Rows
theorem Lk10.holds_of (hm : ∀ (K : DL.Fg) (mg : Str → Option Value), Lk10.Fx K mg → ∀ ns : List Int, ns.length ≤ 63 → ∃ ρ, DM.F_law__v2 K [.val (.scr ns)] = .ok (.rt (.bl true)) ρ) : PySem.Challenge.rw_bitplaces_k10_whole_towns_between.Holds := by
  w_on; o_law
  refine HandSHeadRun.head_any (r := OpenLaw.row PySem.Challenge.rw_bitplaces_k10_whole_towns_between) (q := view (OpenLaw.row PySem.Challenge.rw_bitplaces_k10_whole_towns_between).prog [46]) (H := Lk10.hk) (ob := Lk10.ob) (M := 40000) (loose := Lk10.loose) (d := HandSHeadRun.topDef (OpenLaw.row PySem.Challenge.rw_bitplaces_k10_whole_towns_between).prog 46) (kwd := []) Lk10.ob_eq
    (by kernel_rfl) (fun s => by kernel_rfl) Lk10.run (by kernel_rfl) (by kernel_rfl) (by kernel_rfl) (by rfl) (by first | assumption | decide +kernel) (by decide +kernel) ⟨rfl, rfl, rfl, rfl, rfl, by decide +kernel⟩ ?hw ?hc
  case hw => w_witness2
  case hc =>
    refine DL.walkG (l := PySem.Challenge.rw_bitplaces_k10_whole_towns_between) (n := 63) (k := 7) (x := "_law_script") rfl (by decide) (by kernel_rfl) ⟨rfl, by decide, by decide⟩ ?F
    intro w mg fa h Y G hmg0
    obtain ⟨K, KX, c⟩ := Y
    have X := Lk10.fx_of KX G c
    have hmg : mg ("law" : PySem.Str) = some (.ref fa) := by
      have e : (HandSHeadRun.topDef (OpenLaw.row PySem.Challenge.rw_bitplaces_k10_whole_towns_between).prog 46).name = ("law" : PySem.Str) := by kernel_rfl
      rw [← e]
      exact hmg0
    have e := hmg.symm.trans X.g_law
    cases e
    obtain ⟨fd, F⟩ := X.d_law
    have b := L2.FunD.bindsA (ps := ["_law_script"]) F fun _ _ _ _ _ _ us hl => match us, hl with | [_], _ => rfl
    exact ⟨K, fd, DL.spD K 1 (DM.F_law__v2 K), KX, fun s v => b s [v] rfl, fun H a ns hl _ hS => DL.sp_law hS (hm K mg X ns hl), fun base _ _ => Lk10.fp_law X F⟩

theorem PySem.Challenge.cw_bitplaces_k10_whole_towns_between_holds : PySem.Challenge.rw_bitplaces_k10_whole_towns_between.Holds := by
  exact Lk10.holds_of fun K mg X ns hl => MA.law10 X.kitc_Web_Web ns
